/- Walks, written by a program: what each function of the translation hands back. -/
import Derived.Test.YtcpfdfejojghbaaB3
namespace Go.Proofs.Ytcpfdfejojghbaa
open Go.Gx Go.RowKit
attribute [local irreducible] wpList wpStill Code.wp Calls
open Go.Bt
def PutI (h : Nat) : Prop := ∀ ⦃k : List UInt8⦄ ⦃yv : Value⦄ ⦃x : Int⦄ ⦃R W : Nat → Prop⦄ ⦃p : Nat⦄ ⦃t : Tr (Int) h⦄ ⦃w : World⦄, TreeR kI R w h p t W → Ok h t → szT h t ≤ 6 → Own w 0 5 1 yv k.length (k.map u8v) → (∀ j, Bl yv j → R j) →
  Ret Try.prog 48 #[ptr p 0, (Value.agg #[yv, (Value.int .i64 x)])] w (fun v' w' => Gr w w' W ∧ ∃ u m, v' = .tuple #[.bool (putT h k x t).1, u, m] ∧ OutR kI R w' w.heap.size W h p (putT h k x t).2 u m)
theorem putNI {h : Nat} {k : List UInt8} {yv : Value} {x : Int} {R W G : Nat → Prop} {p : Nat} {kv cv : Value} {K : List DK} {P : List Nat} {cs : List (Tr (Int) h)} {w : World} (IH : PutI h) (hNd : NodeR kI R w p kv cv K P G W) (hKs : KidsR kI R w h P cs G) (hO : Nd h (K.map Prod.snd) cs) (hz : ∀ c ∈ cs, okSz h c) (hn : K.length ≤ 6) (hk : Own w 0 5 1 yv k.length (k.map u8v)) (hkr : ∀ j, Bl yv j → R j) : Ret Try.prog 48 #[(ptr p 0), (Value.agg #[yv, (Value.int .i64 x)])] w (fun v' w' => Gr w w' W ∧ ∃ u m, v' = .tuple #[.bool (putT (h + 1) k x ((K.map Prod.snd, cs) : Tr (Int) (h + 1))).1, u, m] ∧ OutR kI R w' w.heap.size W (h + 1) p (putT (h + 1) k x ((K.map Prod.snd, cs) : Tr (Int) (h + 1))).2 u m) := by
 have hx : Bx w p 115 [.slice none 0 0, kv, cv] := hNd.bx
 have ok := hNd.ok
 have oc : Own w 0 69 1 cv P.length (P.flatMap cN) := hNd.oc
 have ks := hNd.ks
 have hs := hO.2.1
 have hi_p := hx.lt
 have hPc : P.length = cs.length := hKs.len
 have hcl : cs.length = K.length + 1 := hO.1.trans (by simp)
 have hPl : P.length = K.length + 1 := hPc.trans hcl
 have hwl : (way (K.map Prod.snd) k) ≤ K.length := by have := way_le (K.map Prod.snd) k; simpa using this
 obtain ⟨c, hc, hcO, hcw⟩ := hO.at (i := (way (K.map Prod.snd) k)) (by simpa using hwl)
 have hic : (way (K.map Prod.snd) k) < cs.length := by omega
 obtain ⟨f, G0, hkid, hrest, hfG, hfs, hGs⟩ := Kids.cutc hKs hc
 have hkid : TreeR kI R w h (P.getD (way (K.map Prod.snd) k) default) c f := hkid
 have hrest : KidsR kI R w h (P.eraseIdx (way (K.map Prod.snd) k)) (cs.eraseIdx (way (K.map Prod.snd) k)) G0 := hrest
 have djpf : ¬ f p := fun q => hNd.np (hfs p q)
 have djpG : ¬ G0 p := fun q => hNd.np (hGs p q)
 have djkf := hNd.nk.mono hfs
 have djkG := hNd.nk.mono hGs
 have djcf := hNd.nc.mono hfs
 have djcG := hNd.nc.mono hGs
 have hb := Gr.refl w W
 refine enter (N := 92) Try.func48 rfl rfl (by simp) fun a0 hN hd hA => ?_
 have s0 : a0.tmps.getD 0 undef = (ptr p 0) := hA 0 (by simp)
 have s1 : a0.tmps.getD 1 undef = (Value.agg #[yv, (Value.int .i64 x)]) := hA 1 (by simp)
 clear hA
 refine seq_any fun K1942 hK1942 => ?_
 refine one_reg ?_
 refine op_box (cs := [yv, (Value.int .i64 x)]) (ev_base hN rfl s1) rfl ?_
 intro w1943 b1944 lo_b1944 hi_b1944 hB1946 E1945
 have dj1947 : ¬ f b1944 := fun hf => by have := (hkid.lt _ hf).2; omega
 have dj1948 : ¬ G0 b1944 := fun hf => by have := (hrest.lt _ hf).2; omega
 have z_w1943 := E1945.size
 have hx := hx.keep0 E1945
 have ok := ok.keep0 E1945
 have oc := oc.keep0 E1945
 have ks : ∀ x9 ∈ K, Own w1943 0 5 1 x9.1 x9.2.length (x9.2.map u8v) := fun x9 hx9 => (ks x9 hx9).keep0 E1945
 have hk := hk.keep0 E1945
 have hkid := hkid.keepG (Gr.of0 E1945 NoB) (fun _ _ h => h) (NoK.no _)
 have hrest := hrest.keepG (Gr.of0 E1945 NoB) (fun _ _ h => h) (NoK.no _)
 have hb := hb.step0 E1945
 refine op_assign rfl ?_
 refine op_assign rfl ?_
 refine op_assign rfl ?_
 refine reg_nil ?_
 refine hK1942 _ _ ?_
 refine seq_any fun K1949 hK1949 => ?_
 refine seq_any fun K1950 hK1950 => ?_
 refine one_reg ?_
 refine op_move (ev_base hN rfl s0) ?_
 refine op_fn (vs := [(ptr p 0)]) ok81 ⟨(ev_hit hN rfl), trivial⟩ (Ret.flip (leafNI hx ok oc (by omega) (by omega))) ?_
 rintro _ _ ⟨rfl, rfl⟩
 refine reg_nil ?_
 refine hK1950 _ _ ?_
 refine wp_cond_false (ev_hit hN rfl) ?_
 refine seq_any fun K1951 hK1951 => ?_
 refine one_reg ?_
 refine op_move (ev_base hN rfl s0) ?_
 refine op_field fld51_0 (ev_hit hN rfl) ?_
 refine op_load1 (v := yv) one27 (ev_hit hN rfl) (hB1946.cell rfl) ?_
 refine op_fn (vs := [(ptr p 0), yv]) ok84 ⟨(ev_hit hN rfl), ⟨(ev_hit hN rfl), trivial⟩⟩ (wayI hx ok oc ks hs (by omega) (hk.rdw.mono (Nat.zero_le _) (by omega))) ?_
 rintro _ w1952 ⟨E1953, rfl⟩
 have E1953 := grown_of_below E1953
 have z_w1952 := E1953.size
 have hx := hx.keep0 E1953
 have ok := ok.keep0 E1953
 have oc := oc.keep0 E1953
 have ks : ∀ x9 ∈ K, Own w1952 0 5 1 x9.1 x9.2.length (x9.2.map u8v) := fun x9 hx9 => (ks x9 hx9).keep0 E1953
 have hk := hk.keep0 E1953
 have hkid := hkid.keepG (Gr.of0 E1953 NoB) (fun _ _ h => h) (NoK.no _)
 have hrest := hrest.keepG (Gr.of0 E1953 NoB) (fun _ _ h => h) (NoK.no _)
 have hB1946 := hB1946.keep0 E1953
 have hb := hb.step0 E1953
 refine op_assign (ev_hit hN rfl) ?_
 refine reg_nil ?_
 refine hK1951 _ _ ?_
 refine seq_any fun K1954 hK1954 => ?_
 refine one_reg ?_
 refine op_assign rfl ?_
 refine reg_nil ?_
 refine hK1954 _ _ ?_
 refine seq_any fun K1955 hK1955 => ?_
 refine one_reg ?_
 refine op_assign rfl ?_
 refine reg_nil ?_
 refine hK1955 _ _ ?_
 refine seq_any fun K1956 hK1956 => ?_
 refine reg_from mixed ?_
 intro w1958 E1957
 have z_w1958 := E1957.size
 have hx := hx.keep0 E1957
 have ok := ok.keep0 E1957
 have oc := oc.keep0 E1957
 have ks : ∀ x9 ∈ K, Own w1958 0 5 1 x9.1 x9.2.length (x9.2.map u8v) := fun x9 hx9 => (ks x9 hx9).keep0 E1957
 have hk := hk.keep0 E1957
 have hkid := hkid.keepG (Gr.of0 E1957 NoB) (fun _ _ h => h) (NoK.no _)
 have hrest := hrest.keepG (Gr.of0 E1957 NoB) (fun _ _ h => h) (NoK.no _)
 have hB1946 := hB1946.keep0 E1957
 have hb := hb.step0 E1957
 refine from_still (m := 8) 8 (hd := [_, _, _, _, _, _, _, _]) (by kernel_rfl) rfl rfl ?_
 refine st_step rfl (fun _ h9 => op_move (ev_base hN rfl s0) h9) ?_
 refine st_step rfl (fun _ h9 => op_nil (ev_hit hN rfl) h9) ?_
 refine st_step rfl (fun _ h9 => op_field fld115_2 (ev_hit hN rfl) h9) ?_
 refine st_step rfl (fun _ h9 => op_load1 (v := cv) one113 (ev_hit hN rfl) (hx.cell rfl) h9) ?_
 refine st_step rfl (fun _ h9 => op_move (ev_hit hN rfl) h9) ?_
 refine st_index_rd slt113 (ev_hit hN rfl) oc.rdw (ev_hit hN rfl) (by omega) (by omega) ?_
 intro b1959 o1960 h0b1959 h1b1959 hc1961
 refine st_step rfl (fun _ h9 => op_load1 (v := (ptr (P.getD ((way (K.map Prod.snd) k)) default) 0)) one69 (ev_hit hN rfl) (by have := hc1961 0 (ptr (P.getD ((way (K.map Prod.snd) k)) default) 0) (by decide) (el_pn (i := ((way (K.map Prod.snd) k))) (by omega) (by first | omega | (simp only [List.length_drop, List.length_take]; omega))); simpa using this) h9) ?_
 refine st_step rfl (fun _ h9 => op_loadA (cs := [yv, (Value.int .i64 x)]) agg51 rfl (ev_hit hN rfl) (fun j u hu => by rw [Nat.zero_add]; exact hB1946.cell hu) h9) ?_
 refine st_nil ?_
 refine from_one (k' := 9) (by kernel_rfl) rfl rfl ?_
 rcases Bool.eq_false_or_eq_true (((putT h k x c).2.2.isSome)) with k55 | k55
 · -- 55T
  refine op_fn (vs := [(ptr (P.getD ((way (K.map Prod.snd) k)) default) 0), (Value.agg #[yv, (Value.int .i64 x)])]) ok48 ⟨(ev_hit hN rfl), ⟨(ev_hit hN rfl), trivial⟩⟩ (IH hkid hcO (by have := (hz c (List.mem_of_getElem? hc)).2; omega) hk hkr) ?_
  rintro _ w1963 ⟨E1964, u1962, m1962, rfl, ho1962⟩
  have bd1965 := hx.lt
  have bd1966 := ok.lt
  have bd1967 := oc.lt
  have bd1968 := hk.lt
  have bd1969 := hrest.lt
  have bd1970 := hB1946.lt
  obtain ⟨y1962, t2_1962, q1962, W1_1962, W2_1962, hr1962, rfl, hu1962, hur1962, hT1962, hT2_1962, hN1_1962, hN2_1962, hd1962⟩ := outR_some k55 ho1962
  have hkid_old := hkid
  have z_w1963 := E1964.size
  have hx := hx.keepG E1964 djpf
  have ok := ok.keepG E1964 djkf
  have oc := oc.keepG E1964 djcf
  have ks : ∀ x9 ∈ K, Own w1963 0 5 1 x9.1 x9.2.length (x9.2.map u8v) := fun x9 hx9 => (ks x9 hx9).keepG E1964 (hkid_old.notOwn (ks x9 hx9) (by decide) (by decide) (by decide) (by decide))
  have hk := hk.keepG E1964 (hkid_old.notOwn hk (by decide) (by decide) (by decide) (by decide))
  have hrest := hrest.keepG E1964 hfG.symm (hkid_old.noK kI_fine)
  have hB1946 := hB1946.keepG E1964 dj1947
  have hb := hb.stepF E1964 (fun k _ h => hNd.wg k (hfs k h))
  have dj1971 : ¬ W1_1962 p := ne_stepF hN1_1962 bd1965 djpf
  have dj1972 : Dj (Bl kv) W1_1962 := Dj.stepF hN1_1962 (fun k hk => (bd1966 k hk).2) djkf
  have dj1973 : Dj (Bl cv) W1_1962 := Dj.stepF hN1_1962 (fun k hk => (bd1967 k hk).2) djcf
  have dj1975 : Dj G0 W1_1962 := Dj.stepF hN1_1962 (fun k hk => (bd1969 k hk).2) hfG.symm
  have dj1976 : ¬ W1_1962 b1944 := ne_stepF hN1_1962 bd1970 dj1947
  have dj1977 : ¬ W2_1962 p := ne_stepF hN2_1962 bd1965 djpf
  have dj1978 : Dj (Bl kv) W2_1962 := Dj.stepF hN2_1962 (fun k hk => (bd1966 k hk).2) djkf
  have dj1979 : Dj (Bl cv) W2_1962 := Dj.stepF hN2_1962 (fun k hk => (bd1967 k hk).2) djcf
  have dj1981 : Dj G0 W2_1962 := Dj.stepF hN2_1962 (fun k hk => (bd1969 k hk).2) hfG.symm
  have dj1982 : ¬ W2_1962 b1944 := ne_stepF hN2_1962 bd1970 dj1947
  have hin1983 := in_newF (hN1_1962.mono (t := w.heap.size) (by omega)) (fun k hk => hNd.wg k (hfs k hk))
  have hin1984 := in_newF (hN2_1962.mono (t := w.heap.size) (by omega)) (fun k hk => hNd.wg k (hfs k hk))
  refine from_next ?_
  refine from_still (m := 16) 7 (hd := [_, _, _, _, _, _, _]) (by kernel_rfl) rfl rfl ?_
  refine st_step rfl (fun _ h9 => op_move (ev_hit hN rfl) h9) ?_
  refine st_step rfl (fun _ h9 => op_extract (ev_hit hN rfl) rfl h9) ?_
  refine st_step rfl (fun _ h9 => op_extract (ev_hit hN rfl) rfl h9) ?_
  refine st_step rfl (fun _ h9 => op_extract (ev_hit hN rfl) rfl h9) ?_
  refine st_step rfl (fun _ h9 => op_assign (ev_hit hN rfl) h9) ?_
  refine st_step rfl (fun _ h9 => op_assign (ev_hit hN rfl) h9) ?_
  refine st_step rfl (fun _ h9 => op_assign (ev_hit hN rfl) h9) ?_
  refine st_nil ?_
  refine from_end ?_ rfl
  refine hK1956 _ _ ?_
  refine seq_any fun K1985 hK1985 => ?_
  refine one_reg ?_
  refine op_move (ev_hit hN rfl) ?_
  refine op_pne_some ptrt69 (ev_hit hN rfl) rfl ?_
  refine reg_nil ?_
  refine hK1985 _ _ ?_
  refine wp_cond_true (ev_hit hN rfl) ?_
  refine reg_split (hd := [_, _, _, _, _, _, _, _, _, _, _, _, _, _, _, _, _, _, _, _, _, _]) (tl := _) 22 mixed (by kernel_rfl) rfl rfl ?_
  refine any_treek (φ := phiV [(fun uz => uz = (ptr p 0)), (fun uz => uz = (ptr p 0)), (fun uz => uz = (ptr p 0)), (fun uz => uz = (ptr p 0)), (fun uz => uz = (ptr p 1)), (fun uz => uz = kv), (fun uz => uz = (Value.int .i64 (((way (K.map Prod.snd) k) : Nat) : Int))), (fun uz => uz = u1962), (fun _ => True), (fun _ => True), (fun uz => uz = (ptr p 0)), (fun uz => uz = (ptr p 0)), (fun uz => uz = (ptr p 2)), (fun uz => uz = cv), (fun uz => uz = (Value.int .i64 (((way (K.map Prod.snd) k) : Nat) : Int))), (fun uz => uz = (Value.int .i64 ((((way (K.map Prod.snd) k) : Nat) : Int) + 1))), (fun uz => uz = (ptr q1962 0)), (fun _ => True), (fun _ => True), (fun uz => uz = (ptr p 0)), (fun uz => uz = (ptr p 1)), (fun _ => True)]) (G := fun t9 w' => 21 ∈ t9 → (Bx w' p 115 [(Value.slice none 0 0), kv, cv])) [8, 9, 17, 18, 21] (by kernel_rfl) (by kernel_rfl) (by kernel_rfl) (by kernel_rfl) (by kernel_rfl) hN (fun _ w1 w2 E h hc9 => (h hc9).keep0 E) (fun _ => hx) (ObRk9.cons ?_ (ObRk9.cons ?_ (ObRk9.cons ?_ (ObRk9.cons ?_ (ObRk9.cons ?_ (ObRk9.cons ?_ (ObRk9.cons ?_ (ObRk9.cons ?_ (ObRk9.pass rfl (ObRk9.pass rfl (ObRk9.cons ?_ (ObRk9.cons ?_ (ObRk9.cons ?_ (ObRk9.cons ?_ (ObRk9.cons ?_ (ObRk9.cons ?_ (ObRk9.cons ?_ (ObRk9.pass rfl (ObRk9.pass rfl (ObRk9.cons ?_ (ObRk9.cons ?_ (ObRk9.pass rfl (ObRk9.nil))))))))))))))))))))))) (by simp only [putsL_defers]) ?_
  ·
   intro eA tA aA wA hNA hckA hGA hbsA hdpA
   have qA_0 := (hbsA 0 rfl).trans (sl_base hN rfl s0)
   refine op_move (ev_base hNA rfl qA_0) ?_
   exact obTk_end rfl rfl
  ·
   intro eA tA aA wA hNA hckA hGA hbsA hdpA
   have qA_0 := (hbsA 0 rfl).trans (sl_base hN rfl s0)
   refine op_move (ev_base hNA rfl qA_0) ?_
   exact obTk_end rfl rfl
  ·
   intro eA tA aA wA hNA hckA hGA hbsA hdpA
   have qA_0 := (hbsA 0 rfl).trans (sl_base hN rfl s0)
   refine op_move (ev_base hNA rfl qA_0) ?_
   exact obTk_end rfl rfl
  ·
   intro eA tA aA wA hNA hckA hGA hbsA hdpA
   have qA_63 : Sl aA 63 (ptr p 0) := (hdpA 2 _ 63 (by kernel_rfl) rfl rfl).2 rfl
   refine op_nil (ev_base hNA rfl qA_63) ?_
   exact obTk_end rfl rfl
  ·
   intro eA tA aA wA hNA hckA hGA hbsA hdpA
   have qA_64 : Sl aA 64 (ptr p 0) := (hdpA 3 _ 64 (by kernel_rfl) rfl rfl).2 rfl
   refine op_field fld115_1 (ev_base hNA rfl qA_64) ?_
   exact obTk_end rfl rfl
  ·
   intro eA tA aA wA hNA hckA hGA hbsA hdpA
   have qA_65 : Sl aA 65 (ptr p 1) := (hdpA 4 _ 65 (by kernel_rfl) rfl rfl).2 rfl
   have hGA := hGA (hckA 21 rfl (by kernel_rfl))
   refine op_load1 (v := kv) one90 (ev_base hNA rfl qA_65) (hGA.cell rfl) ?_
   exact obTk_end rfl rfl
  ·
   intro eA tA aA wA hNA hckA hGA hbsA hdpA
   have qA_9 := (hbsA 9 rfl).trans (sl_hit hN rfl)
   refine op_move (ev_base hNA rfl qA_9) ?_
   exact obTk_end rfl rfl
  ·
   intro eA tA aA wA hNA hckA hGA hbsA hdpA
   have qA_10 := (hbsA 10 rfl).trans (sl_hit hN rfl)
   refine op_move (ev_base hNA rfl qA_10) ?_
   exact obTk_end rfl rfl
  ·
   intro eA tA aA wA hNA hckA hGA hbsA hdpA
   have qA_0 := (hbsA 0 rfl).trans (sl_base hN rfl s0)
   refine op_move (ev_base hNA rfl qA_0) ?_
   exact obTk_end rfl rfl
  ·
   intro eA tA aA wA hNA hckA hGA hbsA hdpA
   have qA_71 : Sl aA 71 (ptr p 0) := (hdpA 10 _ 71 (by kernel_rfl) rfl rfl).2 rfl
   refine op_nil (ev_base hNA rfl qA_71) ?_
   exact obTk_end rfl rfl
  ·
   intro eA tA aA wA hNA hckA hGA hbsA hdpA
   have qA_72 : Sl aA 72 (ptr p 0) := (hdpA 11 _ 72 (by kernel_rfl) rfl rfl).2 rfl
   refine op_field fld115_2 (ev_base hNA rfl qA_72) ?_
   exact obTk_end rfl rfl
  ·
   intro eA tA aA wA hNA hckA hGA hbsA hdpA
   have qA_73 : Sl aA 73 (ptr p 2) := (hdpA 12 _ 73 (by kernel_rfl) rfl rfl).2 rfl
   have hGA := hGA (hckA 21 rfl (by kernel_rfl))
   refine op_load1 (v := cv) one113 (ev_base hNA rfl qA_73) (hGA.cell rfl) ?_
   exact obTk_end rfl rfl
  ·
   intro eA tA aA wA hNA hckA hGA hbsA hdpA
   have qA_9 := (hbsA 9 rfl).trans (sl_hit hN rfl)
   refine op_move (ev_base hNA rfl qA_9) ?_
   exact obTk_end rfl rfl
  ·
   intro eA tA aA wA hNA hckA hGA hbsA hdpA
   have qA_75 : Sl aA 75 (Value.int .i64 (((way (K.map Prod.snd) k) : Nat) : Int)) := (hdpA 14 _ 75 (by kernel_rfl) rfl rfl).2 rfl
   refine op_add (ev_base hNA rfl qA_75) rfl (add64 (by omega)) ?_
   exact obTk_end rfl rfl
  ·
   intro eA tA aA wA hNA hckA hGA hbsA hdpA
   have qA_11 := (hbsA 11 rfl).trans (sl_hit hN rfl)
   refine op_move (ev_base hNA rfl qA_11) ?_
   exact obTk_end rfl rfl
  ·
   intro eA tA aA wA hNA hckA hGA hbsA hdpA
   have qA_61 : Sl aA 61 (ptr p 0) := (hdpA 0 _ 61 (by kernel_rfl) rfl rfl).2 rfl
   refine op_nil (ev_base hNA rfl qA_61) ?_
   exact obTk_end rfl rfl
  ·
   intro eA tA aA wA hNA hckA hGA hbsA hdpA
   have qA_80 : Sl aA 80 (ptr p 0) := (hdpA 19 _ 80 (by kernel_rfl) rfl rfl).2 rfl
   refine op_field fld115_1 (ev_base hNA rfl qA_80) ?_
   exact obTk_end rfl rfl
  ·
   refine ktk_step (rs := [8, 17]) (by kernel_rfl) ?_
   refine more_mem ?_ ?_
   · -- first 8
    intro w1987 E1987 _ a1987 hN1987 hbs1987 hdp1987 o_ ho_; obtain rfl := Option.some.inj ho_
    have z_w1987 := E1987.size
    have hx := hx.keep0 E1987
    have ok := ok.keep0 E1987
    have oc := oc.keep0 E1987
    have ks : ∀ x9 ∈ K, Own w1987 0 5 1 x9.1 x9.2.length (x9.2.map u8v) := fun x9 hx9 => (ks x9 hx9).keep0 E1987
    have hk := hk.keep0 E1987
    have hrest := hrest.keepG (Gr.of0 E1987 NoB) (fun _ _ h => h) (NoK.no _)
    have hB1946 := hB1946.keep0 E1987
    have hT1962 := hT1962.keepG (Gr.of0 E1987 NoB) (fun _ _ h => h) (NoK.no _)
    have hT2_1962 := hT2_1962.keepG (Gr.of0 E1987 NoB) (fun _ _ h => h) (NoK.no _)
    have hu1962 := hu1962.keep0 E1987
    have hb := hb.step0 E1987
    have q1987_68 : Sl a1987 68 u1962 := (hdp1987 7 _ 68 (by kernel_rfl) rfl rfl).2 rfl
    refine op_bslice (e := 27) (pv := [(0, u1962)]) (cs := [u1962]) ⟨rfl, (ev_base hN1987 rfl q1987_68), trivial⟩ (by obtain ⟨_, _, _, rfl⟩ := hu1962.sl; kernel_rfl) ?_
    intro w1988 b1989 lo_b1989 hi_b1989 hB1991 E1990
    have dj1992 : ¬ G0 b1989 := fun hf => by have := (hrest.lt _ hf).2; omega
    have dj1993 : ¬ W1_1962 b1989 := fun hf => by have := (hT1962.lt _ hf).2; omega
    have dj1994 : ¬ W2_1962 b1989 := fun hf => by have := (hT2_1962.lt _ hf).2; omega
    have ne_b1989_kv : kv.ownBlock ≠ some b1989 := fun hh => by have := (ok.lt _ hh).2; omega
    have z_w1988 := E1990.size
    have hx := hx.keep0 E1990
    have ok := ok.keep0 E1990
    have oc := oc.keep0 E1990
    have ks : ∀ x9 ∈ K, Own w1988 0 5 1 x9.1 x9.2.length (x9.2.map u8v) := fun x9 hx9 => (ks x9 hx9).keep0 E1990
    have hk := hk.keep0 E1990
    have hrest := hrest.keepG (Gr.of0 E1990 NoB) (fun _ _ h => h) (NoK.no _)
    have hB1946 := hB1946.keep0 E1990
    have hT1962 := hT1962.keepG (Gr.of0 E1990 NoB) (fun _ _ h => h) (NoK.no _)
    have hT2_1962 := hT2_1962.keepG (Gr.of0 E1990 NoB) (fun _ _ h => h) (NoK.no _)
    have hu1962 := hu1962.keep0 E1990
    have hb := hb.step0 E1990
    refine ktk_end (G := fun t9 w' => 21 ∈ t9 → (Bx w' p 115 [(Value.slice none 0 0), kv, cv])) (todo := [8, 9, 17, 18, 21]) (i := 8) rfl (fun _ => hx) ?_
    refine ktk_step (rs := [9, 17]) (by kernel_rfl) ?_
    refine more_mem ?_ ?_
    · -- first 9
     intro w1996 E1996 _ a1996 hN1996 hbs1996 hdp1996 o_ ho_; obtain rfl := Option.some.inj ho_
     have z_w1996 := E1996.size
     have hx := hx.keep0 E1996
     have ok := ok.keep0 E1996
     have oc := oc.keep0 E1996
     have ks : ∀ x9 ∈ K, Own w1996 0 5 1 x9.1 x9.2.length (x9.2.map u8v) := fun x9 hx9 => (ks x9 hx9).keep0 E1996
     have hk := hk.keep0 E1996
     have hrest := hrest.keepG (Gr.of0 E1996 NoB) (fun _ _ h => h) (NoK.no _)
     have hB1946 := hB1946.keep0 E1996
     have hT1962 := hT1962.keepG (Gr.of0 E1996 NoB) (fun _ _ h => h) (NoK.no _)
     have hT2_1962 := hT2_1962.keepG (Gr.of0 E1996 NoB) (fun _ _ h => h) (NoK.no _)
     have hu1962 := hu1962.keep0 E1996
     have hB1991 := hB1991.keep0 E1996
     have hb := hb.step0 E1996
     have q1996_66 : Sl a1996 66 kv := (hdp1996 5 _ 66 (by kernel_rfl) rfl rfl).2 rfl
     have q1996_67 : Sl a1996 67 (Value.int .i64 (((way (K.map Prod.snd) k) : Nat) : Int)) := (hdp1996 6 _ 67 (by kernel_rfl) rfl rfl).2 rfl
     have q1996_69 : Sl a1996 69 (Value.slice (some ⟨b1989, 0, none⟩) 1 1) := (Option.some.inj ((hdp1996 8 _ 69 (by kernel_rfl) rfl rfl).1 rfl)).symm
     refine op_fn (vs := [kv, (Value.int .i64 (((way (K.map Prod.snd) k) : Nat) : Int)), (Value.slice (some ⟨b1989, 0, none⟩) 1 1)]) ok67 ⟨(ev_base hN1996 rfl q1996_66), ⟨(ev_base hN1996 rfl q1996_67), ⟨(ev_base hN1996 rfl q1996_69), trivial⟩⟩⟩ (InsK ok hB1991 (one_kd ks (fun _ h => h)) (by simp only [List.all_cons, List.all_nil, Bool.true_and, Bool.and_true, hu1962.one]; try rfl) (by first | omega | (simp only [List.length_insertIdx, List.length_set, List.length_drop, List.length_take]; omega) | (simp; omega)) (by first | omega | (simp only [List.length_insertIdx, List.length_set, List.length_drop, List.length_take]; omega) | (simp; omega)) ne_b1989_kv) ?_
     rintro v1997 w1998 ⟨E1999, hO1997, hm1997⟩
     have dj2000 : Dj G0 (Bl v1997) := Dj.step hm1997 (fun k hk => (hrest.lt k hk).2) djkG.symm
     have dj2001 : Dj W1_1962 (Bl v1997) := Dj.step hm1997 (fun k hk => (hT1962.lt k hk).2) dj1972.symm
     have dj2002 : Dj W2_1962 (Bl v1997) := Dj.step hm1997 (fun k hk => (hT2_1962.lt k hk).2) dj1978.symm
     have hin2003 := inF_step (n := w.heap.size) hm1997 (by omega) (fun k _ h => hNd.wk k h)
     have z_w1998 := E1999.size
     have hx := hx.keepO ok E1999 (by decide)
     have oc := oc.keepT ok E1999 (by decide)
     have ks : ∀ x9 ∈ K, Own w1998 0 5 1 x9.1 x9.2.length (x9.2.map u8v) := fun x9 hx9 => (ks x9 hx9).keepT ok E1999 (by decide)
     have hk := hk.keepT ok E1999 (by decide)
     have hrest := hrest.keepG (Gr.of E1999) djkG.symm (NoK.ofOwn ok (by decide))
     have hB1946 := hB1946.keepO ok E1999 (by decide)
     have hT1962 := hT1962.keepG (Gr.of E1999) dj1972.symm (NoK.ofOwn ok (by decide))
     have hT2_1962 := hT2_1962.keepG (Gr.of E1999) dj1978.symm (NoK.ofOwn ok (by decide))
     have hu1962 := hu1962.keepT ok E1999 (by decide)
     have hB1991 := hB1991.keep E1999 (fun hh => ne_b1989_kv hh.symm)
     have hb := hb.stepL E1999 (fun k _ h => hNd.wk k h)
     have hO1997 : Own w1998 0 27 1 v1997 (K.insertIdx (way (K.map Prod.snd) k) (u1962, y1962)).length ((K.insertIdx (way (K.map Prod.snd) k) (u1962, y1962)).flatMap cK) := hO1997.cast (by rw [List.length_insertIdx, if_pos (by first | omega | (simp only [List.length_insertIdx, List.length_set, List.length_drop, List.length_take]; omega) | (simp; omega))]) (flat_ins cK_len (u1962, y1962) (by first | omega | (simp only [List.length_insertIdx, List.length_set, List.length_drop, List.length_take]; omega) | (simp; omega)))
     refine ktk_end (G := fun t9 w' => 21 ∈ t9 → (Bx w' p 115 [(Value.slice none 0 0), kv, cv])) (todo := [9, 17, 18, 21]) (i := 9) rfl (fun _ => hx) ?_
     refine ktk_step (rs := [17]) (by kernel_rfl) ?_
     refine one_mem ?_
     intro w2005 E2005 _ a2005 hN2005 hbs2005 hdp2005 o_ ho_; obtain rfl := Option.some.inj ho_
     have z_w2005 := E2005.size
     have hx := hx.keep0 E2005
     have oc := oc.keep0 E2005
     have ks : ∀ x9 ∈ K, Own w2005 0 5 1 x9.1 x9.2.length (x9.2.map u8v) := fun x9 hx9 => (ks x9 hx9).keep0 E2005
     have hk := hk.keep0 E2005
     have hrest := hrest.keepG (Gr.of0 E2005 NoB) (fun _ _ h => h) (NoK.no _)
     have hB1946 := hB1946.keep0 E2005
     have hT1962 := hT1962.keepG (Gr.of0 E2005 NoB) (fun _ _ h => h) (NoK.no _)
     have hT2_1962 := hT2_1962.keepG (Gr.of0 E2005 NoB) (fun _ _ h => h) (NoK.no _)
     have hu1962 := hu1962.keep0 E2005
     have hB1991 := hB1991.keep0 E2005
     have hO1997 := hO1997.keep0 E2005
     have hb := hb.step0 E2005
     have q2005_77 : Sl a2005 77 (ptr q1962 0) := (hdp2005 16 _ 77 (by kernel_rfl) rfl rfl).2 rfl
     refine op_bslice (e := 69) (pv := [(0, (ptr q1962 0))]) (cs := [(ptr q1962 0)]) ⟨rfl, (ev_base hN2005 rfl q2005_77), trivial⟩ (by kernel_rfl) ?_
     intro w2006 b2007 lo_b2007 hi_b2007 hB2009 E2008
     have dj2010 : ¬ G0 b2007 := fun hf => by have := (hrest.lt _ hf).2; omega
     have dj2011 : ¬ W1_1962 b2007 := fun hf => by have := (hT1962.lt _ hf).2; omega
     have dj2012 : ¬ W2_1962 b2007 := fun hf => by have := (hT2_1962.lt _ hf).2; omega
     have ne_b2007_cv : cv.ownBlock ≠ some b2007 := fun hh => by have := (oc.lt _ hh).2; omega
     have z_w2006 := E2008.size
     have hx := hx.keep0 E2008
     have oc := oc.keep0 E2008
     have ks : ∀ x9 ∈ K, Own w2006 0 5 1 x9.1 x9.2.length (x9.2.map u8v) := fun x9 hx9 => (ks x9 hx9).keep0 E2008
     have hk := hk.keep0 E2008
     have hrest := hrest.keepG (Gr.of0 E2008 NoB) (fun _ _ h => h) (NoK.no _)
     have hB1946 := hB1946.keep0 E2008
     have hT1962 := hT1962.keepG (Gr.of0 E2008 NoB) (fun _ _ h => h) (NoK.no _)
     have hT2_1962 := hT2_1962.keepG (Gr.of0 E2008 NoB) (fun _ _ h => h) (NoK.no _)
     have hu1962 := hu1962.keep0 E2008
     have hB1991 := hB1991.keep0 E2008
     have hO1997 := hO1997.keep0 E2008
     have hb := hb.step0 E2008
     refine ktk_end (G := fun t9 w' => 21 ∈ t9 → (Bx w' p 115 [(Value.slice none 0 0), kv, cv])) (todo := [17, 18, 21]) (i := 17) rfl (fun _ => hx) ?_
     refine ktk_step (rs := [18]) (by kernel_rfl) ?_
     refine one_mem ?_
     intro w2014 E2014 _ a2014 hN2014 hbs2014 hdp2014 o_ ho_; obtain rfl := Option.some.inj ho_
     have z_w2014 := E2014.size
     have hx := hx.keep0 E2014
     have oc := oc.keep0 E2014
     have ks : ∀ x9 ∈ K, Own w2014 0 5 1 x9.1 x9.2.length (x9.2.map u8v) := fun x9 hx9 => (ks x9 hx9).keep0 E2014
     have hk := hk.keep0 E2014
     have hrest := hrest.keepG (Gr.of0 E2014 NoB) (fun _ _ h => h) (NoK.no _)
     have hB1946 := hB1946.keep0 E2014
     have hT1962 := hT1962.keepG (Gr.of0 E2014 NoB) (fun _ _ h => h) (NoK.no _)
     have hT2_1962 := hT2_1962.keepG (Gr.of0 E2014 NoB) (fun _ _ h => h) (NoK.no _)
     have hu1962 := hu1962.keep0 E2014
     have hB1991 := hB1991.keep0 E2014
     have hO1997 := hO1997.keep0 E2014
     have hB2009 := hB2009.keep0 E2014
     have hb := hb.step0 E2014
     have q2014_74 : Sl a2014 74 cv := (hdp2014 13 _ 74 (by kernel_rfl) rfl rfl).2 rfl
     have q2014_76 : Sl a2014 76 (Value.int .i64 ((((way (K.map Prod.snd) k) : Nat) : Int) + 1)) := (hdp2014 15 _ 76 (by kernel_rfl) rfl rfl).2 rfl
     have q2014_78 : Sl a2014 78 (Value.slice (some ⟨b2007, 0, none⟩) 1 1) := (Option.some.inj ((hdp2014 17 _ 78 (by kernel_rfl) rfl rfl).1 rfl)).symm
     refine op_fn (vs := [cv, (Value.int .i64 ((((way (K.map Prod.snd) k) : Nat) : Int) + 1)), (Value.slice (some ⟨b2007, 0, none⟩) 1 1)]) ok85 ⟨(ev_base hN2014 rfl q2014_74), ⟨(ev_base hN2014 rfl q2014_76), ⟨(ev_base hN2014 rfl q2014_78), trivial⟩⟩⟩ (InsNI oc hB2009 (one_pn _) rfl (by first | omega | (simp only [List.length_insertIdx, List.length_set, List.length_drop, List.length_take]; omega) | (simp; omega)) (by first | omega | (simp only [List.length_insertIdx, List.length_set, List.length_drop, List.length_take]; omega) | (simp; omega)) ne_b2007_cv) ?_
     rintro v2015 w2016 ⟨E2017, hO2015, hm2015⟩
     have dj2018 : Dj G0 (Bl v2015) := Dj.step hm2015 (fun k hk => (hrest.lt k hk).2) djcG.symm
     have dj2019 : Dj W1_1962 (Bl v2015) := Dj.step hm2015 (fun k hk => (hT1962.lt k hk).2) dj1973.symm
     have dj2020 : Dj W2_1962 (Bl v2015) := Dj.step hm2015 (fun k hk => (hT2_1962.lt k hk).2) dj1979.symm
     have hin2021 := inF_step (n := w.heap.size) hm2015 (by omega) (fun k _ h => hNd.wc k h)
     have z_w2016 := E2017.size
     have hx := hx.keepO oc E2017 (by decide)
     have ks : ∀ x9 ∈ K, Own w2016 0 5 1 x9.1 x9.2.length (x9.2.map u8v) := fun x9 hx9 => (ks x9 hx9).keepT oc E2017 (by decide)
     have hk := hk.keepT oc E2017 (by decide)
     have hrest := hrest.keepG (Gr.of E2017) djcG.symm (NoK.ofOwn oc (by decide))
     have hB1946 := hB1946.keepO oc E2017 (by decide)
     have hT1962 := hT1962.keepG (Gr.of E2017) dj1973.symm (NoK.ofOwn oc (by decide))
     have hT2_1962 := hT2_1962.keepG (Gr.of E2017) dj1979.symm (NoK.ofOwn oc (by decide))
     have hu1962 := hu1962.keepT oc E2017 (by decide)
     have hB1991 := hB1991.keepO oc E2017 (by decide)
     have hO1997 := hO1997.keepT oc E2017 (by decide)
     have hB2009 := hB2009.keep E2017 (fun hh => ne_b2007_cv hh.symm)
     have hb := hb.stepL E2017 (fun k _ h => hNd.wc k h)
     have hO2015 : Own w2016 0 69 1 v2015 (P.insertIdx (((way (K.map Prod.snd) k)) + 1) q1962).length ((P.insertIdx (((way (K.map Prod.snd) k)) + 1) q1962).flatMap cN) := hO2015.cast (by rw [List.length_insertIdx, if_pos (by first | omega | (simp only [List.length_insertIdx, List.length_set, List.length_drop, List.length_take]; omega) | (simp; omega))]) (flat_ins cN_len q1962 (by first | omega | (simp only [List.length_insertIdx, List.length_set, List.length_drop, List.length_take]; omega) | (simp; omega)))
     refine ktk_end (G := fun t9 w' => 21 ∈ t9 → (Bx w' p 115 [(Value.slice none 0 0), kv, cv])) (todo := [18, 21]) (i := 18) rfl (fun _ => hx) ?_
     refine ktk_step (rs := [21]) (by kernel_rfl) ?_
     refine one_mem ?_
     intro w2023 E2023 _ a2023 hN2023 hbs2023 hdp2023 o_ ho_; obtain rfl := Option.some.inj ho_
     have z_w2023 := E2023.size
     have hx := hx.keep0 E2023
     have ks : ∀ x9 ∈ K, Own w2023 0 5 1 x9.1 x9.2.length (x9.2.map u8v) := fun x9 hx9 => (ks x9 hx9).keep0 E2023
     have hk := hk.keep0 E2023
     have hrest := hrest.keepG (Gr.of0 E2023 NoB) (fun _ _ h => h) (NoK.no _)
     have hB1946 := hB1946.keep0 E2023
     have hT1962 := hT1962.keepG (Gr.of0 E2023 NoB) (fun _ _ h => h) (NoK.no _)
     have hT2_1962 := hT2_1962.keepG (Gr.of0 E2023 NoB) (fun _ _ h => h) (NoK.no _)
     have hu1962 := hu1962.keep0 E2023
     have hB1991 := hB1991.keep0 E2023
     have hO1997 := hO1997.keep0 E2023
     have hB2009 := hB2009.keep0 E2023
     have hO2015 := hO2015.keep0 E2023
     have hb := hb.step0 E2023
     have q2023_81 : Sl a2023 81 (ptr p 1) := (hdp2023 20 _ 81 (by kernel_rfl) rfl rfl).2 rfl
     have q2023_70 : Sl a2023 70 v1997 := (Option.some.inj ((hdp2023 9 _ 70 (by kernel_rfl) rfl rfl).1 rfl)).symm
     have hx_old := hx
     refine op_store (vs := [v1997]) (cs' := [(Value.slice none 0 0), v1997, cv]) size90 (ev_base hN2023 rfl q2023_81) (ev_base hN2023 rfl q2023_70) hO1997.cl rfl (by simp only [List.all_cons, List.all_nil, Bool.true_and, Bool.and_true, hO1997.one]; try rfl) hx (Nat.le_of_ble_eq_true rfl) rfl ?_
     intro w2026 hx E2027
     have z_w2026 := E2027.size
     have ks : ∀ x9 ∈ K, Own w2026 0 5 1 x9.1 x9.2.length (x9.2.map u8v) := fun x9 hx9 => (ks x9 hx9).keepX hx_old E2027 (by decide)
     have hk := hk.keepX hx_old E2027 (by decide)
     have hrest := hrest.keepG (Gr.of E2027) (Dj.one djpG) (NoK.ofBx hx_old (by decide))
     have hB1946 := hB1946.keep E2027 (fun hh => hB1946.ne hx_old (by decide) (Option.some.inj hh))
     have hT1962 := hT1962.keepG (Gr.of E2027) (Dj.one dj1971) (NoK.ofBx hx_old (by decide))
     have hT2_1962 := hT2_1962.keepG (Gr.of E2027) (Dj.one dj1977) (NoK.ofBx hx_old (by decide))
     have hu1962 := hu1962.keepX hx_old E2027 (by decide)
     have hB1991 := hB1991.keep E2027 (fun hh => hB1991.ne hx_old (by decide) (Option.some.inj hh))
     have hO1997 := hO1997.keepX hx_old E2027 (by decide)
     have hB2009 := hB2009.keep E2027 (fun hh => hB2009.ne hx_old (by decide) (Option.some.inj hh))
     have hO2015 := hO2015.keepX hx_old E2027 (by decide)
     have hb := hb.stepB E2027 hNd.wp
     refine ktk_end0 (G := fun t9 w' => 21 ∈ t9 → (Bx w' p 115 [(Value.slice none 0 0), kv, cv])) (todo := [21]) (i := 21) rfl (fun h => absurd h (by decide)) ?_
     intro w2028 E2028 a2028 hN2028 hd2028 hbs2028 hph2028
     have hd2028 := hd2028.trans ((by simp only [putsL_defers] : _ = _).trans hd)
     have z_w2028 := E2028.size
     have ks : ∀ x9 ∈ K, Own w2028 0 5 1 x9.1 x9.2.length (x9.2.map u8v) := fun x9 hx9 => (ks x9 hx9).keep0 E2028
     have hk := hk.keep0 E2028
     have hrest := hrest.keepG (Gr.of0 E2028 NoB) (fun _ _ h => h) (NoK.no _)
     have hB1946 := hB1946.keep0 E2028
     have hT1962 := hT1962.keepG (Gr.of0 E2028 NoB) (fun _ _ h => h) (NoK.no _)
     have hT2_1962 := hT2_1962.keepG (Gr.of0 E2028 NoB) (fun _ _ h => h) (NoK.no _)
     have hu1962 := hu1962.keep0 E2028
     have hB1991 := hB1991.keep0 E2028
     have hO1997 := hO1997.keep0 E2028
     have hB2009 := hB2009.keep0 E2028
     have hO2015 := hO2015.keep0 E2028
     have hx := hx.keep0 E2028
     have hb := hb.step0 E2028
     have s2028_0 := (hbs2028 0 rfl).trans (sl_base hN rfl s0)
     have s2028_4 := (hbs2028 4 rfl).trans (sl_hit hN rfl)
     have s2028_5 := (hbs2028 5 rfl).trans (sl_hit hN rfl)
     have s2028_6 := (hbs2028 6 rfl).trans (sl_hit hN rfl)
     have s2028_62 : Sl a2028 62 (ptr p 0) := (hph2028 1 _ 62 rfl rfl).2 rfl
     have s2028_79 : Sl a2028 79 v2015 := (Option.some.inj ((hph2028 18 _ 79 rfl rfl).1 rfl)).symm
     refine split_end ?_
     refine from_seq (tl := [_, _, _]) (by decide) (by kernel_rfl) rfl ?_
     refine op_nil (ev_base hN2028 rfl s2028_62) ?_
     refine op_field fld115_2 (ev_hit hN2028 rfl) ?_
     have hx_old := hx
     refine op_store (vs := [v2015]) (cs' := [(Value.slice none 0 0), v1997, v2015]) size113 (ev_hit hN2028 rfl) (ev_base hN2028 rfl s2028_79) hO2015.cl rfl (by simp only [List.all_cons, List.all_nil, Bool.true_and, Bool.and_true, hO2015.one]; try rfl) hx (Nat.le_of_ble_eq_true rfl) rfl ?_
     intro w2031 hx E2032
     have z_w2031 := E2032.size
     have ks : ∀ x9 ∈ K, Own w2031 0 5 1 x9.1 x9.2.length (x9.2.map u8v) := fun x9 hx9 => (ks x9 hx9).keepX hx_old E2032 (by decide)
     have hk := hk.keepX hx_old E2032 (by decide)
     have hrest := hrest.keepG (Gr.of E2032) (Dj.one djpG) (NoK.ofBx hx_old (by decide))
     have hB1946 := hB1946.keep E2032 (fun hh => hB1946.ne hx_old (by decide) (Option.some.inj hh))
     have hT1962 := hT1962.keepG (Gr.of E2032) (Dj.one dj1971) (NoK.ofBx hx_old (by decide))
     have hT2_1962 := hT2_1962.keepG (Gr.of E2032) (Dj.one dj1977) (NoK.ofBx hx_old (by decide))
     have hu1962 := hu1962.keepX hx_old E2032 (by decide)
     have hB1991 := hB1991.keep E2032 (fun hh => hB1991.ne hx_old (by decide) (Option.some.inj hh))
     have hO1997 := hO1997.keepX hx_old E2032 (by decide)
     have hB2009 := hB2009.keep E2032 (fun hh => hB2009.ne hx_old (by decide) (Option.some.inj hh))
     have hO2015 := hO2015.keepX hx_old E2032 (by decide)
     have hb := hb.stepB E2032 hNd.wp
     refine reg_nil ?_
     refine hK1949 _ _ ?_
     refine seq_any fun K2033 hK2033 => ?_
     refine one_reg ?_
     have hl1 : (K.insertIdx (way (K.map Prod.snd) k) (u1962, y1962)).length = K.length + 1 := by rw [List.length_insertIdx, if_pos hwl]
     have hl2 : (P.insertIdx (((way (K.map Prod.snd) k)) + 1) q1962).length = P.length + 1 := by rw [List.length_insertIdx, if_pos (by omega)]
     have ks2034 : ∀ x9 ∈ (K.insertIdx (way (K.map Prod.snd) k) (u1962, y1962)), Own w2031 0 5 1 x9.1 x9.2.length (x9.2.map u8v) := kks_ins ks hu1962 hwl
     refine op_move (ev_base hN2028 rfl s2028_0) ?_
     rcases Bool.eq_false_or_eq_true (decide ((K.insertIdx (way (K.map Prod.snd) k) (u1962, y1962)).length ≤ 6)) with k86 | k86
     · -- 86T
      refine op_fn (vs := [(ptr p 0)]) ok86 ⟨(ev_hit hN2028 rfl), trivial⟩ (Ret.flip (halvesNsI hx hO1997 hO2015 (by first | omega | (simp only [List.length_insertIdx, List.length_set, List.length_drop, List.length_take]; omega) | (simp; omega)) (of_decide_eq_true k86))) ?_
      rintro _ _ ⟨rfl, rfl⟩
      refine op_move (ev_hit hN2028 rfl) ?_
      refine op_extract (ev_hit hN2028 rfl) rfl ?_
      refine op_extract (ev_hit hN2028 rfl) rfl ?_
      refine op_assign (ev_hit hN2028 rfl) ?_
      refine op_assign (ev_hit hN2028 rfl) ?_
      refine reg_nil ?_
      refine hK2033 _ _ ?_
      refine seq_any fun K2035 hK2035 => ?_
      refine one_reg ?_
      refine op_move (ev_base hN2028 rfl s2028_4) ?_
      refine op_move (ev_hit hN2028 rfl) ?_
      refine op_move (ev_hit hN2028 rfl) ?_
      refine op_assign (ev_hit hN2028 rfl) ?_
      refine op_assign (ev_hit hN2028 rfl) ?_
      refine op_assign (ev_hit hN2028 rfl) ?_
      refine reg_nil ?_
      refine hK2035 _ _ ?_
      refine wp_ret ?_
      refine retN (rs := [.tmp 4, .tmp 5, .tmp 6]) (vs := [(Value.bool (putT h k x c).1), (Value.slice none 0 0), (Value.pointer none)]) rfl hd2028 ⟨(ev_hit hN2028 rfl), ⟨(ev_hit hN2028 rfl), ⟨(ev_hit hN2028 rfl), trivial⟩⟩⟩ rfl ⟨_, rfl, ?_⟩
      -- path 55T 86T
      exact ⟨hb, _, _, by rw [(put_some (u := u1962) hc hr1962 hwl)]; rfl, out_node_small (K := (K.insertIdx (way (K.map Prod.snd) k) (u1962, y1962))) (ts := ((cs.set (way (K.map Prod.snd) k) (putT h k x c).2.1).insertIdx ((way (K.map Prod.snd) k) + 1) t2_1962)) ((congrArg Prod.snd (put_some (u := u1962) hc hr1962 hwl)).trans (halves_nsmall (by simpa using of_decide_eq_true k86))) hx hO1997 hO2015 ks2034 (kks_ins hNd.kr hur1962 hwl) (Kids.ins (i := (way (K.map Prod.snd) k) + 1) (Kids.back1 (i := (way (K.map Prod.snd) k)) (A := TreeR kI R w2031 h) hrest hPc hic hT1962 dj1975.symm) (by rw [List.length_set]; omega) hT2_1962 (fun k h1 h2 => h2.elim (hd1962.symm k h1) (dj1981.symm k h1))) (fun h9 => h9.elim (fun h8 => dj1977 h8) (fun h8 => h8.elim (fun h8 => dj1971 h8) (fun h8 => djpG h8))) (fun j hj h9 => h9.elim (fun h8 => dj2002.symm j hj h8) (fun h8 => h8.elim (fun h8 => dj2001.symm j hj h8) (fun h8 => dj2000.symm j hj h8))) (fun j hj h9 => h9.elim (fun h8 => dj2020.symm j hj h8) (fun h8 => h8.elim (fun h8 => dj2019.symm j hj h8) (fun h8 => dj2018.symm j hj h8))) (nodeW_in (fun _ => hNd.wp) hin2003 hin2021 (fun j hj h9 => h9.elim (fun h8 => hin1984 j hj h8) (fun h8 => h8.elim (fun h8 => hin1983 j hj h8) (fun h8 => (fun j _ q => hNd.wg j (hGs j q)) j hj h8))))⟩
     · -- 86F
      refine op_fn (vs := [(ptr p 0)]) ok86 ⟨(ev_hit hN2028 rfl), trivial⟩ (halvesNbI hx hO1997 hO2015 ks2034 (by first | omega | (simp only [List.length_insertIdx, List.length_set, List.length_drop, List.length_take]; omega) | (simp; omega)) (by have := of_decide_eq_false k86; omega) (by first | omega | (simp only [List.length_insertIdx, List.length_set, List.length_drop, List.length_take]; omega) | (simp; omega))) ?_
      rintro _ w2037 ⟨E2038, q2036, qk2036, qc2036, rfl, hx2036, oa2036, ob2036, lo2036, hB2036, oc2036, od2036⟩
      have ht2039 := hx.lt
      have ht2040 := hO1997.lt
      have ht2041 := hO2015.lt
      have ht2042 := hrest.lt
      have ht2043 := hT1962.lt
      have ht2044 := hT2_1962.lt
      have E2038 := E2038.grown (row := some p) (fun k _ h => by rw [h])
      have hx_old := hx
      have z_w2037 := E2038.size
      have ks : ∀ x9 ∈ K, Own w2037 0 5 1 x9.1 x9.2.length (x9.2.map u8v) := fun x9 hx9 => (ks x9 hx9).keepX hx_old E2038 (by decide)
      have hk := hk.keepX hx_old E2038 (by decide)
      have hrest := hrest.keepG (Gr.of E2038) (Dj.one djpG) (NoK.ofBx hx_old (by decide))
      have hB1946 := hB1946.keep E2038 (fun hh => hB1946.ne hx_old (by decide) (Option.some.inj hh))
      have hT1962 := hT1962.keepG (Gr.of E2038) (Dj.one dj1971) (NoK.ofBx hx_old (by decide))
      have hT2_1962 := hT2_1962.keepG (Gr.of E2038) (Dj.one dj1977) (NoK.ofBx hx_old (by decide))
      have hu1962 := hu1962.keepX hx_old E2038 (by decide)
      have hB1991 := hB1991.keep E2038 (fun hh => hB1991.ne hx_old (by decide) (Option.some.inj hh))
      have hB2009 := hB2009.keep E2038 (fun hh => hB2009.ne hx_old (by decide) (Option.some.inj hh))
      have ks2034 : ∀ x9 ∈ (K.insertIdx (way (K.map Prod.snd) k) (u1962, y1962)), Own w2037 0 5 1 x9.1 x9.2.length (x9.2.map u8v) := fun x9 hx9 => (ks2034 x9 hx9).keepX hx_old E2038 (by decide)
      have hb := hb.stepB E2038 hNd.wp
      refine op_move (ev_hit hN2028 rfl) ?_
      refine op_extract (ev_hit hN2028 rfl) rfl ?_
      refine op_extract (ev_hit hN2028 rfl) rfl ?_
      refine op_assign (ev_hit hN2028 rfl) ?_
      refine op_assign (ev_hit hN2028 rfl) ?_
      refine reg_nil ?_
      refine hK2033 _ _ ?_
      refine seq_any fun K2045 hK2045 => ?_
      refine one_reg ?_
      refine op_move (ev_base hN2028 rfl s2028_4) ?_
      refine op_move (ev_hit hN2028 rfl) ?_
      refine op_move (ev_hit hN2028 rfl) ?_
      refine op_assign (ev_hit hN2028 rfl) ?_
      refine op_assign (ev_hit hN2028 rfl) ?_
      refine op_assign (ev_hit hN2028 rfl) ?_
      refine reg_nil ?_
      refine hK2045 _ _ ?_
      refine wp_ret ?_
      refine retN (rs := [.tmp 4, .tmp 5, .tmp 6]) (vs := [(Value.bool (putT h k x c).1), ((K.insertIdx (way (K.map Prod.snd) k) (u1962, y1962)).getD ((K.insertIdx (way (K.map Prod.snd) k) (u1962, y1962)).length / 2) default).1, (ptr q2036 0)]) rfl hd2028 ⟨(ev_hit hN2028 rfl), ⟨(ev_hit hN2028 rfl), ⟨(ev_hit hN2028 rfl), trivial⟩⟩⟩ rfl ⟨_, rfl, ?_⟩
      -- path 55T 86F
      exact ⟨hb, _, _, by rw [(put_some (u := u1962) hc hr1962 hwl)]; rfl, out_node_big (K := (K.insertIdx (way (K.map Prod.snd) k) (u1962, y1962))) (ts := ((cs.set (way (K.map Prod.snd) k) (putT h k x c).2.1).insertIdx ((way (K.map Prod.snd) k) + 1) t2_1962)) ((congrArg Prod.snd (put_some (u := u1962) hc hr1962 hwl)).trans (halves_nbig (by have := of_decide_eq_false k86; omega))) (by have := of_decide_eq_false k86; omega) hx2036 oa2036 ob2036 hB2036 oc2036 od2036 lo2036 (by omega) ks2034 (kks_ins hNd.kr hur1962 hwl) (Kids.ins (i := (way (K.map Prod.snd) k) + 1) (Kids.back1 (i := (way (K.map Prod.snd) k)) (A := TreeR kI R w2037 h) hrest hPc hic hT1962 dj1975.symm) (by rw [List.length_set]; omega) hT2_1962 (fun k h1 h2 => h2.elim (hd1962.symm k h1) (dj1981.symm k h1))) (fun h9 => h9.elim (fun h8 => dj1977 h8) (fun h8 => h8.elim (fun h8 => dj1971 h8) (fun h8 => djpG h8))) (fun j hj h9 => h9.elim (fun h8 => dj2002.symm j ((hiV_ob _ _).symm.trans hj) h8) (fun h8 => h8.elim (fun h8 => dj2001.symm j ((hiV_ob _ _).symm.trans hj) h8) (fun h8 => dj2000.symm j ((hiV_ob _ _).symm.trans hj) h8))) (fun j hj h9 => h9.elim (fun h8 => dj2020.symm j ((hiV_ob _ _).symm.trans hj) h8) (fun h8 => h8.elim (fun h8 => dj2019.symm j ((hiV_ob _ _).symm.trans hj) h8) (fun h8 => dj2018.symm j ((hiV_ob _ _).symm.trans hj) h8))) (nodeW_in (fun _ => hNd.wp) (inF_step (n := w.heap.size) (.inl (hiV_ob _ _)) (Nat.le_refl _) hin2003) (inF_step (n := w.heap.size) (.inl (hiV_ob _ _)) (Nat.le_refl _) hin2021) (fun j hj h9 => h9.elim (fun h8 => hin1984 j hj h8) (fun h8 => h8.elim (fun h8 => hin1983 j hj h8) (fun h8 => (fun j _ q => hNd.wg j (hGs j q)) j hj h8)))) (nodeW_lt ht2039 (fun j h9 => (ht2040 j ((hiV_ob _ _).symm.trans h9)).2) (fun j h9 => (ht2041 j ((hiV_ob _ _).symm.trans h9)).2) (fun j h9 => h9.elim (fun h8 => (ht2044 j h8).2) (fun h8 => h8.elim (fun h8 => (ht2043 j h8).2) (fun h8 => (ht2042 j h8).2))))⟩
    refine one_mem ?_
    intro w2046 E2046 _ a2046 hN2046 hbs2046 hdp2046 o_ ho_; obtain rfl := Option.some.inj ho_
    have z_w2046 := E2046.size
    have hx := hx.keep0 E2046
    have ok := ok.keep0 E2046
    have oc := oc.keep0 E2046
    have ks : ∀ x9 ∈ K, Own w2046 0 5 1 x9.1 x9.2.length (x9.2.map u8v) := fun x9 hx9 => (ks x9 hx9).keep0 E2046
    have hk := hk.keep0 E2046
    have hrest := hrest.keepG (Gr.of0 E2046 NoB) (fun _ _ h => h) (NoK.no _)
    have hB1946 := hB1946.keep0 E2046
    have hT1962 := hT1962.keepG (Gr.of0 E2046 NoB) (fun _ _ h => h) (NoK.no _)
    have hT2_1962 := hT2_1962.keepG (Gr.of0 E2046 NoB) (fun _ _ h => h) (NoK.no _)
    have hu1962 := hu1962.keep0 E2046
    have hB1991 := hB1991.keep0 E2046
    have hb := hb.step0 E2046
    have q2046_77 : Sl a2046 77 (ptr q1962 0) := (hdp2046 16 _ 77 (by kernel_rfl) rfl rfl).2 rfl
    refine op_bslice (e := 69) (pv := [(0, (ptr q1962 0))]) (cs := [(ptr q1962 0)]) ⟨rfl, (ev_base hN2046 rfl q2046_77), trivial⟩ (by kernel_rfl) ?_
    intro w2047 b2048 lo_b2048 hi_b2048 hB2050 E2049
    have dj2051 : ¬ G0 b2048 := fun hf => by have := (hrest.lt _ hf).2; omega
    have dj2052 : ¬ W1_1962 b2048 := fun hf => by have := (hT1962.lt _ hf).2; omega
    have dj2053 : ¬ W2_1962 b2048 := fun hf => by have := (hT2_1962.lt _ hf).2; omega
    have ne_b2048_cv : cv.ownBlock ≠ some b2048 := fun hh => by have := (oc.lt _ hh).2; omega
    have z_w2047 := E2049.size
    have hx := hx.keep0 E2049
    have ok := ok.keep0 E2049
    have oc := oc.keep0 E2049
    have ks : ∀ x9 ∈ K, Own w2047 0 5 1 x9.1 x9.2.length (x9.2.map u8v) := fun x9 hx9 => (ks x9 hx9).keep0 E2049
    have hk := hk.keep0 E2049
    have hrest := hrest.keepG (Gr.of0 E2049 NoB) (fun _ _ h => h) (NoK.no _)
    have hB1946 := hB1946.keep0 E2049
    have hT1962 := hT1962.keepG (Gr.of0 E2049 NoB) (fun _ _ h => h) (NoK.no _)
    have hT2_1962 := hT2_1962.keepG (Gr.of0 E2049 NoB) (fun _ _ h => h) (NoK.no _)
    have hu1962 := hu1962.keep0 E2049
    have hB1991 := hB1991.keep0 E2049
    have hb := hb.step0 E2049
    refine ktk_end (G := fun t9 w' => 21 ∈ t9 → (Bx w' p 115 [(Value.slice none 0 0), kv, cv])) (todo := [9, 17, 18, 21]) (i := 17) rfl (fun _ => hx) ?_
    refine ktk_step (rs := [9]) (by kernel_rfl) ?_
    refine one_mem ?_
    intro w2055 E2055 _ a2055 hN2055 hbs2055 hdp2055 o_ ho_; obtain rfl := Option.some.inj ho_
    have z_w2055 := E2055.size
    have hx := hx.keep0 E2055
    have ok := ok.keep0 E2055
    have oc := oc.keep0 E2055
    have ks : ∀ x9 ∈ K, Own w2055 0 5 1 x9.1 x9.2.length (x9.2.map u8v) := fun x9 hx9 => (ks x9 hx9).keep0 E2055
    have hk := hk.keep0 E2055
    have hrest := hrest.keepG (Gr.of0 E2055 NoB) (fun _ _ h => h) (NoK.no _)
    have hB1946 := hB1946.keep0 E2055
    have hT1962 := hT1962.keepG (Gr.of0 E2055 NoB) (fun _ _ h => h) (NoK.no _)
    have hT2_1962 := hT2_1962.keepG (Gr.of0 E2055 NoB) (fun _ _ h => h) (NoK.no _)
    have hu1962 := hu1962.keep0 E2055
    have hB1991 := hB1991.keep0 E2055
    have hB2050 := hB2050.keep0 E2055
    have hb := hb.step0 E2055
    have q2055_66 : Sl a2055 66 kv := (hdp2055 5 _ 66 (by kernel_rfl) rfl rfl).2 rfl
    have q2055_67 : Sl a2055 67 (Value.int .i64 (((way (K.map Prod.snd) k) : Nat) : Int)) := (hdp2055 6 _ 67 (by kernel_rfl) rfl rfl).2 rfl
    have q2055_69 : Sl a2055 69 (Value.slice (some ⟨b1989, 0, none⟩) 1 1) := (Option.some.inj ((hdp2055 8 _ 69 (by kernel_rfl) rfl rfl).1 rfl)).symm
    refine op_fn (vs := [kv, (Value.int .i64 (((way (K.map Prod.snd) k) : Nat) : Int)), (Value.slice (some ⟨b1989, 0, none⟩) 1 1)]) ok67 ⟨(ev_base hN2055 rfl q2055_66), ⟨(ev_base hN2055 rfl q2055_67), ⟨(ev_base hN2055 rfl q2055_69), trivial⟩⟩⟩ (InsK ok hB1991 (one_kd ks (fun _ h => h)) (by simp only [List.all_cons, List.all_nil, Bool.true_and, Bool.and_true, hu1962.one]; try rfl) (by first | omega | (simp only [List.length_insertIdx, List.length_set, List.length_drop, List.length_take]; omega) | (simp; omega)) (by first | omega | (simp only [List.length_insertIdx, List.length_set, List.length_drop, List.length_take]; omega) | (simp; omega)) ne_b1989_kv) ?_
    rintro v2056 w2057 ⟨E2058, hO2056, hm2056⟩
    have dj2059 : Dj G0 (Bl v2056) := Dj.step hm2056 (fun k hk => (hrest.lt k hk).2) djkG.symm
    have dj2060 : Dj W1_1962 (Bl v2056) := Dj.step hm2056 (fun k hk => (hT1962.lt k hk).2) dj1972.symm
    have dj2061 : Dj W2_1962 (Bl v2056) := Dj.step hm2056 (fun k hk => (hT2_1962.lt k hk).2) dj1978.symm
    have hin2062 := inF_step (n := w.heap.size) hm2056 (by omega) (fun k _ h => hNd.wk k h)
    have z_w2057 := E2058.size
    have hx := hx.keepO ok E2058 (by decide)
    have oc := oc.keepT ok E2058 (by decide)
    have ks : ∀ x9 ∈ K, Own w2057 0 5 1 x9.1 x9.2.length (x9.2.map u8v) := fun x9 hx9 => (ks x9 hx9).keepT ok E2058 (by decide)
    have hk := hk.keepT ok E2058 (by decide)
    have hrest := hrest.keepG (Gr.of E2058) djkG.symm (NoK.ofOwn ok (by decide))
    have hB1946 := hB1946.keepO ok E2058 (by decide)
    have hT1962 := hT1962.keepG (Gr.of E2058) dj1972.symm (NoK.ofOwn ok (by decide))
    have hT2_1962 := hT2_1962.keepG (Gr.of E2058) dj1978.symm (NoK.ofOwn ok (by decide))
    have hu1962 := hu1962.keepT ok E2058 (by decide)
    have hB1991 := hB1991.keep E2058 (fun hh => ne_b1989_kv hh.symm)
    have hB2050 := hB2050.keepO ok E2058 (by decide)
    have hb := hb.stepL E2058 (fun k _ h => hNd.wk k h)
    have hO2056 : Own w2057 0 27 1 v2056 (K.insertIdx (way (K.map Prod.snd) k) (u1962, y1962)).length ((K.insertIdx (way (K.map Prod.snd) k) (u1962, y1962)).flatMap cK) := hO2056.cast (by rw [List.length_insertIdx, if_pos (by first | omega | (simp only [List.length_insertIdx, List.length_set, List.length_drop, List.length_take]; omega) | (simp; omega))]) (flat_ins cK_len (u1962, y1962) (by first | omega | (simp only [List.length_insertIdx, List.length_set, List.length_drop, List.length_take]; omega) | (simp; omega)))
    refine ktk_end (G := fun t9 w' => 21 ∈ t9 → (Bx w' p 115 [(Value.slice none 0 0), kv, cv])) (todo := [9, 18, 21]) (i := 9) rfl (fun _ => hx) ?_
    refine ktk_step (rs := [18]) (by kernel_rfl) ?_
    refine one_mem ?_
    intro w2064 E2064 _ a2064 hN2064 hbs2064 hdp2064 o_ ho_; obtain rfl := Option.some.inj ho_
    have z_w2064 := E2064.size
    have hx := hx.keep0 E2064
    have oc := oc.keep0 E2064
    have ks : ∀ x9 ∈ K, Own w2064 0 5 1 x9.1 x9.2.length (x9.2.map u8v) := fun x9 hx9 => (ks x9 hx9).keep0 E2064
    have hk := hk.keep0 E2064
    have hrest := hrest.keepG (Gr.of0 E2064 NoB) (fun _ _ h => h) (NoK.no _)
    have hB1946 := hB1946.keep0 E2064
    have hT1962 := hT1962.keepG (Gr.of0 E2064 NoB) (fun _ _ h => h) (NoK.no _)
    have hT2_1962 := hT2_1962.keepG (Gr.of0 E2064 NoB) (fun _ _ h => h) (NoK.no _)
    have hu1962 := hu1962.keep0 E2064
    have hB1991 := hB1991.keep0 E2064
    have hB2050 := hB2050.keep0 E2064
    have hO2056 := hO2056.keep0 E2064
    have hb := hb.step0 E2064
    have q2064_74 : Sl a2064 74 cv := (hdp2064 13 _ 74 (by kernel_rfl) rfl rfl).2 rfl
    have q2064_76 : Sl a2064 76 (Value.int .i64 ((((way (K.map Prod.snd) k) : Nat) : Int) + 1)) := (hdp2064 15 _ 76 (by kernel_rfl) rfl rfl).2 rfl
    have q2064_78 : Sl a2064 78 (Value.slice (some ⟨b2048, 0, none⟩) 1 1) := (Option.some.inj ((hdp2064 17 _ 78 (by kernel_rfl) rfl rfl).1 rfl)).symm
    refine op_fn (vs := [cv, (Value.int .i64 ((((way (K.map Prod.snd) k) : Nat) : Int) + 1)), (Value.slice (some ⟨b2048, 0, none⟩) 1 1)]) ok85 ⟨(ev_base hN2064 rfl q2064_74), ⟨(ev_base hN2064 rfl q2064_76), ⟨(ev_base hN2064 rfl q2064_78), trivial⟩⟩⟩ (InsNI oc hB2050 (one_pn _) rfl (by first | omega | (simp only [List.length_insertIdx, List.length_set, List.length_drop, List.length_take]; omega) | (simp; omega)) (by first | omega | (simp only [List.length_insertIdx, List.length_set, List.length_drop, List.length_take]; omega) | (simp; omega)) ne_b2048_cv) ?_
    rintro v2065 w2066 ⟨E2067, hO2065, hm2065⟩
    have dj2068 : Dj G0 (Bl v2065) := Dj.step hm2065 (fun k hk => (hrest.lt k hk).2) djcG.symm
    have dj2069 : Dj W1_1962 (Bl v2065) := Dj.step hm2065 (fun k hk => (hT1962.lt k hk).2) dj1973.symm
    have dj2070 : Dj W2_1962 (Bl v2065) := Dj.step hm2065 (fun k hk => (hT2_1962.lt k hk).2) dj1979.symm
    have hin2071 := inF_step (n := w.heap.size) hm2065 (by omega) (fun k _ h => hNd.wc k h)
    have z_w2066 := E2067.size
    have hx := hx.keepO oc E2067 (by decide)
    have ks : ∀ x9 ∈ K, Own w2066 0 5 1 x9.1 x9.2.length (x9.2.map u8v) := fun x9 hx9 => (ks x9 hx9).keepT oc E2067 (by decide)
    have hk := hk.keepT oc E2067 (by decide)
    have hrest := hrest.keepG (Gr.of E2067) djcG.symm (NoK.ofOwn oc (by decide))
    have hB1946 := hB1946.keepO oc E2067 (by decide)
    have hT1962 := hT1962.keepG (Gr.of E2067) dj1973.symm (NoK.ofOwn oc (by decide))
    have hT2_1962 := hT2_1962.keepG (Gr.of E2067) dj1979.symm (NoK.ofOwn oc (by decide))
    have hu1962 := hu1962.keepT oc E2067 (by decide)
    have hB1991 := hB1991.keepO oc E2067 (by decide)
    have hB2050 := hB2050.keep E2067 (fun hh => ne_b2048_cv hh.symm)
    have hO2056 := hO2056.keepT oc E2067 (by decide)
    have hb := hb.stepL E2067 (fun k _ h => hNd.wc k h)
    have hO2065 : Own w2066 0 69 1 v2065 (P.insertIdx (((way (K.map Prod.snd) k)) + 1) q1962).length ((P.insertIdx (((way (K.map Prod.snd) k)) + 1) q1962).flatMap cN) := hO2065.cast (by rw [List.length_insertIdx, if_pos (by first | omega | (simp only [List.length_insertIdx, List.length_set, List.length_drop, List.length_take]; omega) | (simp; omega))]) (flat_ins cN_len q1962 (by first | omega | (simp only [List.length_insertIdx, List.length_set, List.length_drop, List.length_take]; omega) | (simp; omega)))
    refine ktk_end (G := fun t9 w' => 21 ∈ t9 → (Bx w' p 115 [(Value.slice none 0 0), kv, cv])) (todo := [18, 21]) (i := 18) rfl (fun _ => hx) ?_
    refine ktk_step (rs := [21]) (by kernel_rfl) ?_
    refine one_mem ?_
    intro w2073 E2073 _ a2073 hN2073 hbs2073 hdp2073 o_ ho_; obtain rfl := Option.some.inj ho_
    have z_w2073 := E2073.size
    have hx := hx.keep0 E2073
    have ks : ∀ x9 ∈ K, Own w2073 0 5 1 x9.1 x9.2.length (x9.2.map u8v) := fun x9 hx9 => (ks x9 hx9).keep0 E2073
    have hk := hk.keep0 E2073
    have hrest := hrest.keepG (Gr.of0 E2073 NoB) (fun _ _ h => h) (NoK.no _)
    have hB1946 := hB1946.keep0 E2073
    have hT1962 := hT1962.keepG (Gr.of0 E2073 NoB) (fun _ _ h => h) (NoK.no _)
    have hT2_1962 := hT2_1962.keepG (Gr.of0 E2073 NoB) (fun _ _ h => h) (NoK.no _)
    have hu1962 := hu1962.keep0 E2073
    have hB1991 := hB1991.keep0 E2073
    have hB2050 := hB2050.keep0 E2073
    have hO2056 := hO2056.keep0 E2073
    have hO2065 := hO2065.keep0 E2073
    have hb := hb.step0 E2073
    have q2073_81 : Sl a2073 81 (ptr p 1) := (hdp2073 20 _ 81 (by kernel_rfl) rfl rfl).2 rfl
    have q2073_70 : Sl a2073 70 v2056 := (Option.some.inj ((hdp2073 9 _ 70 (by kernel_rfl) rfl rfl).1 rfl)).symm
    have hx_old := hx
    refine op_store (vs := [v2056]) (cs' := [(Value.slice none 0 0), v2056, cv]) size90 (ev_base hN2073 rfl q2073_81) (ev_base hN2073 rfl q2073_70) hO2056.cl rfl (by simp only [List.all_cons, List.all_nil, Bool.true_and, Bool.and_true, hO2056.one]; try rfl) hx (Nat.le_of_ble_eq_true rfl) rfl ?_
    intro w2076 hx E2077
    have z_w2076 := E2077.size
    have ks : ∀ x9 ∈ K, Own w2076 0 5 1 x9.1 x9.2.length (x9.2.map u8v) := fun x9 hx9 => (ks x9 hx9).keepX hx_old E2077 (by decide)
    have hk := hk.keepX hx_old E2077 (by decide)
    have hrest := hrest.keepG (Gr.of E2077) (Dj.one djpG) (NoK.ofBx hx_old (by decide))
    have hB1946 := hB1946.keep E2077 (fun hh => hB1946.ne hx_old (by decide) (Option.some.inj hh))
    have hT1962 := hT1962.keepG (Gr.of E2077) (Dj.one dj1971) (NoK.ofBx hx_old (by decide))
    have hT2_1962 := hT2_1962.keepG (Gr.of E2077) (Dj.one dj1977) (NoK.ofBx hx_old (by decide))
    have hu1962 := hu1962.keepX hx_old E2077 (by decide)
    have hB1991 := hB1991.keep E2077 (fun hh => hB1991.ne hx_old (by decide) (Option.some.inj hh))
    have hB2050 := hB2050.keep E2077 (fun hh => hB2050.ne hx_old (by decide) (Option.some.inj hh))
    have hO2056 := hO2056.keepX hx_old E2077 (by decide)
    have hO2065 := hO2065.keepX hx_old E2077 (by decide)
    have hb := hb.stepB E2077 hNd.wp
    refine ktk_end0 (G := fun t9 w' => 21 ∈ t9 → (Bx w' p 115 [(Value.slice none 0 0), kv, cv])) (todo := [21]) (i := 21) rfl (fun h => absurd h (by decide)) ?_
    intro w2078 E2078 a2078 hN2078 hd2078 hbs2078 hph2078
    have hd2078 := hd2078.trans ((by simp only [putsL_defers] : _ = _).trans hd)
    have z_w2078 := E2078.size
    have ks : ∀ x9 ∈ K, Own w2078 0 5 1 x9.1 x9.2.length (x9.2.map u8v) := fun x9 hx9 => (ks x9 hx9).keep0 E2078
    have hk := hk.keep0 E2078
    have hrest := hrest.keepG (Gr.of0 E2078 NoB) (fun _ _ h => h) (NoK.no _)
    have hB1946 := hB1946.keep0 E2078
    have hT1962 := hT1962.keepG (Gr.of0 E2078 NoB) (fun _ _ h => h) (NoK.no _)
    have hT2_1962 := hT2_1962.keepG (Gr.of0 E2078 NoB) (fun _ _ h => h) (NoK.no _)
    have hu1962 := hu1962.keep0 E2078
    have hB1991 := hB1991.keep0 E2078
    have hB2050 := hB2050.keep0 E2078
    have hO2056 := hO2056.keep0 E2078
    have hO2065 := hO2065.keep0 E2078
    have hx := hx.keep0 E2078
    have hb := hb.step0 E2078
    have s2078_0 := (hbs2078 0 rfl).trans (sl_base hN rfl s0)
    have s2078_4 := (hbs2078 4 rfl).trans (sl_hit hN rfl)
    have s2078_5 := (hbs2078 5 rfl).trans (sl_hit hN rfl)
    have s2078_6 := (hbs2078 6 rfl).trans (sl_hit hN rfl)
    have s2078_62 : Sl a2078 62 (ptr p 0) := (hph2078 1 _ 62 rfl rfl).2 rfl
    have s2078_79 : Sl a2078 79 v2065 := (Option.some.inj ((hph2078 18 _ 79 rfl rfl).1 rfl)).symm
    refine split_end ?_
    refine from_seq (tl := [_, _, _]) (by decide) (by kernel_rfl) rfl ?_
    refine op_nil (ev_base hN2078 rfl s2078_62) ?_
    refine op_field fld115_2 (ev_hit hN2078 rfl) ?_
    have hx_old := hx
    refine op_store (vs := [v2065]) (cs' := [(Value.slice none 0 0), v2056, v2065]) size113 (ev_hit hN2078 rfl) (ev_base hN2078 rfl s2078_79) hO2065.cl rfl (by simp only [List.all_cons, List.all_nil, Bool.true_and, Bool.and_true, hO2065.one]; try rfl) hx (Nat.le_of_ble_eq_true rfl) rfl ?_
    intro w2081 hx E2082
    have z_w2081 := E2082.size
    have ks : ∀ x9 ∈ K, Own w2081 0 5 1 x9.1 x9.2.length (x9.2.map u8v) := fun x9 hx9 => (ks x9 hx9).keepX hx_old E2082 (by decide)
    have hk := hk.keepX hx_old E2082 (by decide)
    have hrest := hrest.keepG (Gr.of E2082) (Dj.one djpG) (NoK.ofBx hx_old (by decide))
    have hB1946 := hB1946.keep E2082 (fun hh => hB1946.ne hx_old (by decide) (Option.some.inj hh))
    have hT1962 := hT1962.keepG (Gr.of E2082) (Dj.one dj1971) (NoK.ofBx hx_old (by decide))
    have hT2_1962 := hT2_1962.keepG (Gr.of E2082) (Dj.one dj1977) (NoK.ofBx hx_old (by decide))
    have hu1962 := hu1962.keepX hx_old E2082 (by decide)
    have hB1991 := hB1991.keep E2082 (fun hh => hB1991.ne hx_old (by decide) (Option.some.inj hh))
    have hB2050 := hB2050.keep E2082 (fun hh => hB2050.ne hx_old (by decide) (Option.some.inj hh))
    have hO2056 := hO2056.keepX hx_old E2082 (by decide)
    have hO2065 := hO2065.keepX hx_old E2082 (by decide)
    have hb := hb.stepB E2082 hNd.wp
    refine reg_nil ?_
    refine hK1949 _ _ ?_
    refine seq_any fun K2083 hK2083 => ?_
    refine one_reg ?_
    have hl1 : (K.insertIdx (way (K.map Prod.snd) k) (u1962, y1962)).length = K.length + 1 := by rw [List.length_insertIdx, if_pos hwl]
    have hl2 : (P.insertIdx (((way (K.map Prod.snd) k)) + 1) q1962).length = P.length + 1 := by rw [List.length_insertIdx, if_pos (by omega)]
    have ks2084 : ∀ x9 ∈ (K.insertIdx (way (K.map Prod.snd) k) (u1962, y1962)), Own w2081 0 5 1 x9.1 x9.2.length (x9.2.map u8v) := kks_ins ks hu1962 hwl
    refine op_move (ev_base hN2078 rfl s2078_0) ?_
    rcases Bool.eq_false_or_eq_true (decide ((K.insertIdx (way (K.map Prod.snd) k) (u1962, y1962)).length ≤ 6)) with k86 | k86
    · -- 86T
     refine op_fn (vs := [(ptr p 0)]) ok86 ⟨(ev_hit hN2078 rfl), trivial⟩ (Ret.flip (halvesNsI hx hO2056 hO2065 (by first | omega | (simp only [List.length_insertIdx, List.length_set, List.length_drop, List.length_take]; omega) | (simp; omega)) (of_decide_eq_true k86))) ?_
     rintro _ _ ⟨rfl, rfl⟩
     refine op_move (ev_hit hN2078 rfl) ?_
     refine op_extract (ev_hit hN2078 rfl) rfl ?_
     refine op_extract (ev_hit hN2078 rfl) rfl ?_
     refine op_assign (ev_hit hN2078 rfl) ?_
     refine op_assign (ev_hit hN2078 rfl) ?_
     refine reg_nil ?_
     refine hK2083 _ _ ?_
     refine seq_any fun K2085 hK2085 => ?_
     refine one_reg ?_
     refine op_move (ev_base hN2078 rfl s2078_4) ?_
     refine op_move (ev_hit hN2078 rfl) ?_
     refine op_move (ev_hit hN2078 rfl) ?_
     refine op_assign (ev_hit hN2078 rfl) ?_
     refine op_assign (ev_hit hN2078 rfl) ?_
     refine op_assign (ev_hit hN2078 rfl) ?_
     refine reg_nil ?_
     refine hK2085 _ _ ?_
     refine wp_ret ?_
     refine retN (rs := [.tmp 4, .tmp 5, .tmp 6]) (vs := [(Value.bool (putT h k x c).1), (Value.slice none 0 0), (Value.pointer none)]) rfl hd2078 ⟨(ev_hit hN2078 rfl), ⟨(ev_hit hN2078 rfl), ⟨(ev_hit hN2078 rfl), trivial⟩⟩⟩ rfl ⟨_, rfl, ?_⟩
     -- path 55T 86T
     exact ⟨hb, _, _, by rw [(put_some (u := u1962) hc hr1962 hwl)]; rfl, out_node_small (K := (K.insertIdx (way (K.map Prod.snd) k) (u1962, y1962))) (ts := ((cs.set (way (K.map Prod.snd) k) (putT h k x c).2.1).insertIdx ((way (K.map Prod.snd) k) + 1) t2_1962)) ((congrArg Prod.snd (put_some (u := u1962) hc hr1962 hwl)).trans (halves_nsmall (by simpa using of_decide_eq_true k86))) hx hO2056 hO2065 ks2084 (kks_ins hNd.kr hur1962 hwl) (Kids.ins (i := (way (K.map Prod.snd) k) + 1) (Kids.back1 (i := (way (K.map Prod.snd) k)) (A := TreeR kI R w2081 h) hrest hPc hic hT1962 dj1975.symm) (by rw [List.length_set]; omega) hT2_1962 (fun k h1 h2 => h2.elim (hd1962.symm k h1) (dj1981.symm k h1))) (fun h9 => h9.elim (fun h8 => dj1977 h8) (fun h8 => h8.elim (fun h8 => dj1971 h8) (fun h8 => djpG h8))) (fun j hj h9 => h9.elim (fun h8 => dj2061.symm j hj h8) (fun h8 => h8.elim (fun h8 => dj2060.symm j hj h8) (fun h8 => dj2059.symm j hj h8))) (fun j hj h9 => h9.elim (fun h8 => dj2070.symm j hj h8) (fun h8 => h8.elim (fun h8 => dj2069.symm j hj h8) (fun h8 => dj2068.symm j hj h8))) (nodeW_in (fun _ => hNd.wp) hin2062 hin2071 (fun j hj h9 => h9.elim (fun h8 => hin1984 j hj h8) (fun h8 => h8.elim (fun h8 => hin1983 j hj h8) (fun h8 => (fun j _ q => hNd.wg j (hGs j q)) j hj h8))))⟩
    · -- 86F
     refine op_fn (vs := [(ptr p 0)]) ok86 ⟨(ev_hit hN2078 rfl), trivial⟩ (halvesNbI hx hO2056 hO2065 ks2084 (by first | omega | (simp only [List.length_insertIdx, List.length_set, List.length_drop, List.length_take]; omega) | (simp; omega)) (by have := of_decide_eq_false k86; omega) (by first | omega | (simp only [List.length_insertIdx, List.length_set, List.length_drop, List.length_take]; omega) | (simp; omega))) ?_
     rintro _ w2087 ⟨E2088, q2086, qk2086, qc2086, rfl, hx2086, oa2086, ob2086, lo2086, hB2086, oc2086, od2086⟩
     have ht2089 := hx.lt
     have ht2090 := hO2056.lt
     have ht2091 := hO2065.lt
     have ht2092 := hrest.lt
     have ht2093 := hT1962.lt
     have ht2094 := hT2_1962.lt
     have E2088 := E2088.grown (row := some p) (fun k _ h => by rw [h])
     have hx_old := hx
     have z_w2087 := E2088.size
     have ks : ∀ x9 ∈ K, Own w2087 0 5 1 x9.1 x9.2.length (x9.2.map u8v) := fun x9 hx9 => (ks x9 hx9).keepX hx_old E2088 (by decide)
     have hk := hk.keepX hx_old E2088 (by decide)
     have hrest := hrest.keepG (Gr.of E2088) (Dj.one djpG) (NoK.ofBx hx_old (by decide))
     have hB1946 := hB1946.keep E2088 (fun hh => hB1946.ne hx_old (by decide) (Option.some.inj hh))
     have hT1962 := hT1962.keepG (Gr.of E2088) (Dj.one dj1971) (NoK.ofBx hx_old (by decide))
     have hT2_1962 := hT2_1962.keepG (Gr.of E2088) (Dj.one dj1977) (NoK.ofBx hx_old (by decide))
     have hu1962 := hu1962.keepX hx_old E2088 (by decide)
     have hB1991 := hB1991.keep E2088 (fun hh => hB1991.ne hx_old (by decide) (Option.some.inj hh))
     have hB2050 := hB2050.keep E2088 (fun hh => hB2050.ne hx_old (by decide) (Option.some.inj hh))
     have ks2084 : ∀ x9 ∈ (K.insertIdx (way (K.map Prod.snd) k) (u1962, y1962)), Own w2087 0 5 1 x9.1 x9.2.length (x9.2.map u8v) := fun x9 hx9 => (ks2084 x9 hx9).keepX hx_old E2088 (by decide)
     have hb := hb.stepB E2088 hNd.wp
     refine op_move (ev_hit hN2078 rfl) ?_
     refine op_extract (ev_hit hN2078 rfl) rfl ?_
     refine op_extract (ev_hit hN2078 rfl) rfl ?_
     refine op_assign (ev_hit hN2078 rfl) ?_
     refine op_assign (ev_hit hN2078 rfl) ?_
     refine reg_nil ?_
     refine hK2083 _ _ ?_
     refine seq_any fun K2095 hK2095 => ?_
     refine one_reg ?_
     refine op_move (ev_base hN2078 rfl s2078_4) ?_
     refine op_move (ev_hit hN2078 rfl) ?_
     refine op_move (ev_hit hN2078 rfl) ?_
     refine op_assign (ev_hit hN2078 rfl) ?_
     refine op_assign (ev_hit hN2078 rfl) ?_
     refine op_assign (ev_hit hN2078 rfl) ?_
     refine reg_nil ?_
     refine hK2095 _ _ ?_
     refine wp_ret ?_
     refine retN (rs := [.tmp 4, .tmp 5, .tmp 6]) (vs := [(Value.bool (putT h k x c).1), ((K.insertIdx (way (K.map Prod.snd) k) (u1962, y1962)).getD ((K.insertIdx (way (K.map Prod.snd) k) (u1962, y1962)).length / 2) default).1, (ptr q2086 0)]) rfl hd2078 ⟨(ev_hit hN2078 rfl), ⟨(ev_hit hN2078 rfl), ⟨(ev_hit hN2078 rfl), trivial⟩⟩⟩ rfl ⟨_, rfl, ?_⟩
     -- path 55T 86F
     exact ⟨hb, _, _, by rw [(put_some (u := u1962) hc hr1962 hwl)]; rfl, out_node_big (K := (K.insertIdx (way (K.map Prod.snd) k) (u1962, y1962))) (ts := ((cs.set (way (K.map Prod.snd) k) (putT h k x c).2.1).insertIdx ((way (K.map Prod.snd) k) + 1) t2_1962)) ((congrArg Prod.snd (put_some (u := u1962) hc hr1962 hwl)).trans (halves_nbig (by have := of_decide_eq_false k86; omega))) (by have := of_decide_eq_false k86; omega) hx2086 oa2086 ob2086 hB2086 oc2086 od2086 lo2086 (by omega) ks2084 (kks_ins hNd.kr hur1962 hwl) (Kids.ins (i := (way (K.map Prod.snd) k) + 1) (Kids.back1 (i := (way (K.map Prod.snd) k)) (A := TreeR kI R w2087 h) hrest hPc hic hT1962 dj1975.symm) (by rw [List.length_set]; omega) hT2_1962 (fun k h1 h2 => h2.elim (hd1962.symm k h1) (dj1981.symm k h1))) (fun h9 => h9.elim (fun h8 => dj1977 h8) (fun h8 => h8.elim (fun h8 => dj1971 h8) (fun h8 => djpG h8))) (fun j hj h9 => h9.elim (fun h8 => dj2061.symm j ((hiV_ob _ _).symm.trans hj) h8) (fun h8 => h8.elim (fun h8 => dj2060.symm j ((hiV_ob _ _).symm.trans hj) h8) (fun h8 => dj2059.symm j ((hiV_ob _ _).symm.trans hj) h8))) (fun j hj h9 => h9.elim (fun h8 => dj2070.symm j ((hiV_ob _ _).symm.trans hj) h8) (fun h8 => h8.elim (fun h8 => dj2069.symm j ((hiV_ob _ _).symm.trans hj) h8) (fun h8 => dj2068.symm j ((hiV_ob _ _).symm.trans hj) h8))) (nodeW_in (fun _ => hNd.wp) (inF_step (n := w.heap.size) (.inl (hiV_ob _ _)) (Nat.le_refl _) hin2062) (inF_step (n := w.heap.size) (.inl (hiV_ob _ _)) (Nat.le_refl _) hin2071) (fun j hj h9 => h9.elim (fun h8 => hin1984 j hj h8) (fun h8 => h8.elim (fun h8 => hin1983 j hj h8) (fun h8 => (fun j _ q => hNd.wg j (hGs j q)) j hj h8)))) (nodeW_lt ht2089 (fun j h9 => (ht2090 j ((hiV_ob _ _).symm.trans h9)).2) (fun j h9 => (ht2091 j ((hiV_ob _ _).symm.trans h9)).2) (fun j h9 => h9.elim (fun h8 => (ht2094 j h8).2) (fun h8 => h8.elim (fun h8 => (ht2093 j h8).2) (fun h8 => (ht2092 j h8).2))))⟩
   refine one_mem ?_
   intro w2096 E2096 _ a2096 hN2096 hbs2096 hdp2096 o_ ho_; obtain rfl := Option.some.inj ho_
   have z_w2096 := E2096.size
   have hx := hx.keep0 E2096
   have ok := ok.keep0 E2096
   have oc := oc.keep0 E2096
   have ks : ∀ x9 ∈ K, Own w2096 0 5 1 x9.1 x9.2.length (x9.2.map u8v) := fun x9 hx9 => (ks x9 hx9).keep0 E2096
   have hk := hk.keep0 E2096
   have hrest := hrest.keepG (Gr.of0 E2096 NoB) (fun _ _ h => h) (NoK.no _)
   have hB1946 := hB1946.keep0 E2096
   have hT1962 := hT1962.keepG (Gr.of0 E2096 NoB) (fun _ _ h => h) (NoK.no _)
   have hT2_1962 := hT2_1962.keepG (Gr.of0 E2096 NoB) (fun _ _ h => h) (NoK.no _)
   have hu1962 := hu1962.keep0 E2096
   have hb := hb.step0 E2096
   have q2096_77 : Sl a2096 77 (ptr q1962 0) := (hdp2096 16 _ 77 (by kernel_rfl) rfl rfl).2 rfl
   refine op_bslice (e := 69) (pv := [(0, (ptr q1962 0))]) (cs := [(ptr q1962 0)]) ⟨rfl, (ev_base hN2096 rfl q2096_77), trivial⟩ (by kernel_rfl) ?_
   intro w2097 b2098 lo_b2098 hi_b2098 hB2100 E2099
   have dj2101 : ¬ G0 b2098 := fun hf => by have := (hrest.lt _ hf).2; omega
   have dj2102 : ¬ W1_1962 b2098 := fun hf => by have := (hT1962.lt _ hf).2; omega
   have dj2103 : ¬ W2_1962 b2098 := fun hf => by have := (hT2_1962.lt _ hf).2; omega
   have ne_b2098_cv : cv.ownBlock ≠ some b2098 := fun hh => by have := (oc.lt _ hh).2; omega
   have z_w2097 := E2099.size
   have hx := hx.keep0 E2099
   have ok := ok.keep0 E2099
   have oc := oc.keep0 E2099
   have ks : ∀ x9 ∈ K, Own w2097 0 5 1 x9.1 x9.2.length (x9.2.map u8v) := fun x9 hx9 => (ks x9 hx9).keep0 E2099
   have hk := hk.keep0 E2099
   have hrest := hrest.keepG (Gr.of0 E2099 NoB) (fun _ _ h => h) (NoK.no _)
   have hB1946 := hB1946.keep0 E2099
   have hT1962 := hT1962.keepG (Gr.of0 E2099 NoB) (fun _ _ h => h) (NoK.no _)
   have hT2_1962 := hT2_1962.keepG (Gr.of0 E2099 NoB) (fun _ _ h => h) (NoK.no _)
   have hu1962 := hu1962.keep0 E2099
   have hb := hb.step0 E2099
   refine ktk_end (G := fun t9 w' => 21 ∈ t9 → (Bx w' p 115 [(Value.slice none 0 0), kv, cv])) (todo := [8, 9, 17, 18, 21]) (i := 17) rfl (fun _ => hx) ?_
   refine ktk_step (rs := [8]) (by kernel_rfl) ?_
   refine one_mem ?_
   intro w2105 E2105 _ a2105 hN2105 hbs2105 hdp2105 o_ ho_; obtain rfl := Option.some.inj ho_
   have z_w2105 := E2105.size
   have hx := hx.keep0 E2105
   have ok := ok.keep0 E2105
   have oc := oc.keep0 E2105
   have ks : ∀ x9 ∈ K, Own w2105 0 5 1 x9.1 x9.2.length (x9.2.map u8v) := fun x9 hx9 => (ks x9 hx9).keep0 E2105
   have hk := hk.keep0 E2105
   have hrest := hrest.keepG (Gr.of0 E2105 NoB) (fun _ _ h => h) (NoK.no _)
   have hB1946 := hB1946.keep0 E2105
   have hT1962 := hT1962.keepG (Gr.of0 E2105 NoB) (fun _ _ h => h) (NoK.no _)
   have hT2_1962 := hT2_1962.keepG (Gr.of0 E2105 NoB) (fun _ _ h => h) (NoK.no _)
   have hu1962 := hu1962.keep0 E2105
   have hB2100 := hB2100.keep0 E2105
   have hb := hb.step0 E2105
   have q2105_68 : Sl a2105 68 u1962 := (hdp2105 7 _ 68 (by kernel_rfl) rfl rfl).2 rfl
   refine op_bslice (e := 27) (pv := [(0, u1962)]) (cs := [u1962]) ⟨rfl, (ev_base hN2105 rfl q2105_68), trivial⟩ (by obtain ⟨_, _, _, rfl⟩ := hu1962.sl; kernel_rfl) ?_
   intro w2106 b2107 lo_b2107 hi_b2107 hB2109 E2108
   have dj2110 : ¬ G0 b2107 := fun hf => by have := (hrest.lt _ hf).2; omega
   have dj2111 : ¬ W1_1962 b2107 := fun hf => by have := (hT1962.lt _ hf).2; omega
   have dj2112 : ¬ W2_1962 b2107 := fun hf => by have := (hT2_1962.lt _ hf).2; omega
   have ne_b2107_kv : kv.ownBlock ≠ some b2107 := fun hh => by have := (ok.lt _ hh).2; omega
   have z_w2106 := E2108.size
   have hx := hx.keep0 E2108
   have ok := ok.keep0 E2108
   have oc := oc.keep0 E2108
   have ks : ∀ x9 ∈ K, Own w2106 0 5 1 x9.1 x9.2.length (x9.2.map u8v) := fun x9 hx9 => (ks x9 hx9).keep0 E2108
   have hk := hk.keep0 E2108
   have hrest := hrest.keepG (Gr.of0 E2108 NoB) (fun _ _ h => h) (NoK.no _)
   have hB1946 := hB1946.keep0 E2108
   have hT1962 := hT1962.keepG (Gr.of0 E2108 NoB) (fun _ _ h => h) (NoK.no _)
   have hT2_1962 := hT2_1962.keepG (Gr.of0 E2108 NoB) (fun _ _ h => h) (NoK.no _)
   have hu1962 := hu1962.keep0 E2108
   have hB2100 := hB2100.keep0 E2108
   have hb := hb.step0 E2108
   refine ktk_end (G := fun t9 w' => 21 ∈ t9 → (Bx w' p 115 [(Value.slice none 0 0), kv, cv])) (todo := [8, 9, 18, 21]) (i := 8) rfl (fun _ => hx) ?_
   refine ktk_step (rs := [9]) (by kernel_rfl) ?_
   refine one_mem ?_
   intro w2114 E2114 _ a2114 hN2114 hbs2114 hdp2114 o_ ho_; obtain rfl := Option.some.inj ho_
   have z_w2114 := E2114.size
   have hx := hx.keep0 E2114
   have ok := ok.keep0 E2114
   have oc := oc.keep0 E2114
   have ks : ∀ x9 ∈ K, Own w2114 0 5 1 x9.1 x9.2.length (x9.2.map u8v) := fun x9 hx9 => (ks x9 hx9).keep0 E2114
   have hk := hk.keep0 E2114
   have hrest := hrest.keepG (Gr.of0 E2114 NoB) (fun _ _ h => h) (NoK.no _)
   have hB1946 := hB1946.keep0 E2114
   have hT1962 := hT1962.keepG (Gr.of0 E2114 NoB) (fun _ _ h => h) (NoK.no _)
   have hT2_1962 := hT2_1962.keepG (Gr.of0 E2114 NoB) (fun _ _ h => h) (NoK.no _)
   have hu1962 := hu1962.keep0 E2114
   have hB2100 := hB2100.keep0 E2114
   have hB2109 := hB2109.keep0 E2114
   have hb := hb.step0 E2114
   have q2114_66 : Sl a2114 66 kv := (hdp2114 5 _ 66 (by kernel_rfl) rfl rfl).2 rfl
   have q2114_67 : Sl a2114 67 (Value.int .i64 (((way (K.map Prod.snd) k) : Nat) : Int)) := (hdp2114 6 _ 67 (by kernel_rfl) rfl rfl).2 rfl
   have q2114_69 : Sl a2114 69 (Value.slice (some ⟨b2107, 0, none⟩) 1 1) := (Option.some.inj ((hdp2114 8 _ 69 (by kernel_rfl) rfl rfl).1 rfl)).symm
   refine op_fn (vs := [kv, (Value.int .i64 (((way (K.map Prod.snd) k) : Nat) : Int)), (Value.slice (some ⟨b2107, 0, none⟩) 1 1)]) ok67 ⟨(ev_base hN2114 rfl q2114_66), ⟨(ev_base hN2114 rfl q2114_67), ⟨(ev_base hN2114 rfl q2114_69), trivial⟩⟩⟩ (InsK ok hB2109 (one_kd ks (fun _ h => h)) (by simp only [List.all_cons, List.all_nil, Bool.true_and, Bool.and_true, hu1962.one]; try rfl) (by first | omega | (simp only [List.length_insertIdx, List.length_set, List.length_drop, List.length_take]; omega) | (simp; omega)) (by first | omega | (simp only [List.length_insertIdx, List.length_set, List.length_drop, List.length_take]; omega) | (simp; omega)) ne_b2107_kv) ?_
   rintro v2115 w2116 ⟨E2117, hO2115, hm2115⟩
   have dj2118 : Dj G0 (Bl v2115) := Dj.step hm2115 (fun k hk => (hrest.lt k hk).2) djkG.symm
   have dj2119 : Dj W1_1962 (Bl v2115) := Dj.step hm2115 (fun k hk => (hT1962.lt k hk).2) dj1972.symm
   have dj2120 : Dj W2_1962 (Bl v2115) := Dj.step hm2115 (fun k hk => (hT2_1962.lt k hk).2) dj1978.symm
   have hin2121 := inF_step (n := w.heap.size) hm2115 (by omega) (fun k _ h => hNd.wk k h)
   have z_w2116 := E2117.size
   have hx := hx.keepO ok E2117 (by decide)
   have oc := oc.keepT ok E2117 (by decide)
   have ks : ∀ x9 ∈ K, Own w2116 0 5 1 x9.1 x9.2.length (x9.2.map u8v) := fun x9 hx9 => (ks x9 hx9).keepT ok E2117 (by decide)
   have hk := hk.keepT ok E2117 (by decide)
   have hrest := hrest.keepG (Gr.of E2117) djkG.symm (NoK.ofOwn ok (by decide))
   have hB1946 := hB1946.keepO ok E2117 (by decide)
   have hT1962 := hT1962.keepG (Gr.of E2117) dj1972.symm (NoK.ofOwn ok (by decide))
   have hT2_1962 := hT2_1962.keepG (Gr.of E2117) dj1978.symm (NoK.ofOwn ok (by decide))
   have hu1962 := hu1962.keepT ok E2117 (by decide)
   have hB2100 := hB2100.keepO ok E2117 (by decide)
   have hB2109 := hB2109.keep E2117 (fun hh => ne_b2107_kv hh.symm)
   have hb := hb.stepL E2117 (fun k _ h => hNd.wk k h)
   have hO2115 : Own w2116 0 27 1 v2115 (K.insertIdx (way (K.map Prod.snd) k) (u1962, y1962)).length ((K.insertIdx (way (K.map Prod.snd) k) (u1962, y1962)).flatMap cK) := hO2115.cast (by rw [List.length_insertIdx, if_pos (by first | omega | (simp only [List.length_insertIdx, List.length_set, List.length_drop, List.length_take]; omega) | (simp; omega))]) (flat_ins cK_len (u1962, y1962) (by first | omega | (simp only [List.length_insertIdx, List.length_set, List.length_drop, List.length_take]; omega) | (simp; omega)))
   refine ktk_end (G := fun t9 w' => 21 ∈ t9 → (Bx w' p 115 [(Value.slice none 0 0), kv, cv])) (todo := [9, 18, 21]) (i := 9) rfl (fun _ => hx) ?_
   refine ktk_step (rs := [18]) (by kernel_rfl) ?_
   refine one_mem ?_
   intro w2123 E2123 _ a2123 hN2123 hbs2123 hdp2123 o_ ho_; obtain rfl := Option.some.inj ho_
   have z_w2123 := E2123.size
   have hx := hx.keep0 E2123
   have oc := oc.keep0 E2123
   have ks : ∀ x9 ∈ K, Own w2123 0 5 1 x9.1 x9.2.length (x9.2.map u8v) := fun x9 hx9 => (ks x9 hx9).keep0 E2123
   have hk := hk.keep0 E2123
   have hrest := hrest.keepG (Gr.of0 E2123 NoB) (fun _ _ h => h) (NoK.no _)
   have hB1946 := hB1946.keep0 E2123
   have hT1962 := hT1962.keepG (Gr.of0 E2123 NoB) (fun _ _ h => h) (NoK.no _)
   have hT2_1962 := hT2_1962.keepG (Gr.of0 E2123 NoB) (fun _ _ h => h) (NoK.no _)
   have hu1962 := hu1962.keep0 E2123
   have hB2100 := hB2100.keep0 E2123
   have hB2109 := hB2109.keep0 E2123
   have hO2115 := hO2115.keep0 E2123
   have hb := hb.step0 E2123
   have q2123_74 : Sl a2123 74 cv := (hdp2123 13 _ 74 (by kernel_rfl) rfl rfl).2 rfl
   have q2123_76 : Sl a2123 76 (Value.int .i64 ((((way (K.map Prod.snd) k) : Nat) : Int) + 1)) := (hdp2123 15 _ 76 (by kernel_rfl) rfl rfl).2 rfl
   have q2123_78 : Sl a2123 78 (Value.slice (some ⟨b2098, 0, none⟩) 1 1) := (Option.some.inj ((hdp2123 17 _ 78 (by kernel_rfl) rfl rfl).1 rfl)).symm
   refine op_fn (vs := [cv, (Value.int .i64 ((((way (K.map Prod.snd) k) : Nat) : Int) + 1)), (Value.slice (some ⟨b2098, 0, none⟩) 1 1)]) ok85 ⟨(ev_base hN2123 rfl q2123_74), ⟨(ev_base hN2123 rfl q2123_76), ⟨(ev_base hN2123 rfl q2123_78), trivial⟩⟩⟩ (InsNI oc hB2100 (one_pn _) rfl (by first | omega | (simp only [List.length_insertIdx, List.length_set, List.length_drop, List.length_take]; omega) | (simp; omega)) (by first | omega | (simp only [List.length_insertIdx, List.length_set, List.length_drop, List.length_take]; omega) | (simp; omega)) ne_b2098_cv) ?_
   rintro v2124 w2125 ⟨E2126, hO2124, hm2124⟩
   have dj2127 : Dj G0 (Bl v2124) := Dj.step hm2124 (fun k hk => (hrest.lt k hk).2) djcG.symm
   have dj2128 : Dj W1_1962 (Bl v2124) := Dj.step hm2124 (fun k hk => (hT1962.lt k hk).2) dj1973.symm
   have dj2129 : Dj W2_1962 (Bl v2124) := Dj.step hm2124 (fun k hk => (hT2_1962.lt k hk).2) dj1979.symm
   have hin2130 := inF_step (n := w.heap.size) hm2124 (by omega) (fun k _ h => hNd.wc k h)
   have z_w2125 := E2126.size
   have hx := hx.keepO oc E2126 (by decide)
   have ks : ∀ x9 ∈ K, Own w2125 0 5 1 x9.1 x9.2.length (x9.2.map u8v) := fun x9 hx9 => (ks x9 hx9).keepT oc E2126 (by decide)
   have hk := hk.keepT oc E2126 (by decide)
   have hrest := hrest.keepG (Gr.of E2126) djcG.symm (NoK.ofOwn oc (by decide))
   have hB1946 := hB1946.keepO oc E2126 (by decide)
   have hT1962 := hT1962.keepG (Gr.of E2126) dj1973.symm (NoK.ofOwn oc (by decide))
   have hT2_1962 := hT2_1962.keepG (Gr.of E2126) dj1979.symm (NoK.ofOwn oc (by decide))
   have hu1962 := hu1962.keepT oc E2126 (by decide)
   have hB2100 := hB2100.keep E2126 (fun hh => ne_b2098_cv hh.symm)
   have hB2109 := hB2109.keepO oc E2126 (by decide)
   have hO2115 := hO2115.keepT oc E2126 (by decide)
   have hb := hb.stepL E2126 (fun k _ h => hNd.wc k h)
   have hO2124 : Own w2125 0 69 1 v2124 (P.insertIdx (((way (K.map Prod.snd) k)) + 1) q1962).length ((P.insertIdx (((way (K.map Prod.snd) k)) + 1) q1962).flatMap cN) := hO2124.cast (by rw [List.length_insertIdx, if_pos (by first | omega | (simp only [List.length_insertIdx, List.length_set, List.length_drop, List.length_take]; omega) | (simp; omega))]) (flat_ins cN_len q1962 (by first | omega | (simp only [List.length_insertIdx, List.length_set, List.length_drop, List.length_take]; omega) | (simp; omega)))
   refine ktk_end (G := fun t9 w' => 21 ∈ t9 → (Bx w' p 115 [(Value.slice none 0 0), kv, cv])) (todo := [18, 21]) (i := 18) rfl (fun _ => hx) ?_
   refine ktk_step (rs := [21]) (by kernel_rfl) ?_
   refine one_mem ?_
   intro w2132 E2132 _ a2132 hN2132 hbs2132 hdp2132 o_ ho_; obtain rfl := Option.some.inj ho_
   have z_w2132 := E2132.size
   have hx := hx.keep0 E2132
   have ks : ∀ x9 ∈ K, Own w2132 0 5 1 x9.1 x9.2.length (x9.2.map u8v) := fun x9 hx9 => (ks x9 hx9).keep0 E2132
   have hk := hk.keep0 E2132
   have hrest := hrest.keepG (Gr.of0 E2132 NoB) (fun _ _ h => h) (NoK.no _)
   have hB1946 := hB1946.keep0 E2132
   have hT1962 := hT1962.keepG (Gr.of0 E2132 NoB) (fun _ _ h => h) (NoK.no _)
   have hT2_1962 := hT2_1962.keepG (Gr.of0 E2132 NoB) (fun _ _ h => h) (NoK.no _)
   have hu1962 := hu1962.keep0 E2132
   have hB2100 := hB2100.keep0 E2132
   have hB2109 := hB2109.keep0 E2132
   have hO2115 := hO2115.keep0 E2132
   have hO2124 := hO2124.keep0 E2132
   have hb := hb.step0 E2132
   have q2132_81 : Sl a2132 81 (ptr p 1) := (hdp2132 20 _ 81 (by kernel_rfl) rfl rfl).2 rfl
   have q2132_70 : Sl a2132 70 v2115 := (Option.some.inj ((hdp2132 9 _ 70 (by kernel_rfl) rfl rfl).1 rfl)).symm
   have hx_old := hx
   refine op_store (vs := [v2115]) (cs' := [(Value.slice none 0 0), v2115, cv]) size90 (ev_base hN2132 rfl q2132_81) (ev_base hN2132 rfl q2132_70) hO2115.cl rfl (by simp only [List.all_cons, List.all_nil, Bool.true_and, Bool.and_true, hO2115.one]; try rfl) hx (Nat.le_of_ble_eq_true rfl) rfl ?_
   intro w2135 hx E2136
   have z_w2135 := E2136.size
   have ks : ∀ x9 ∈ K, Own w2135 0 5 1 x9.1 x9.2.length (x9.2.map u8v) := fun x9 hx9 => (ks x9 hx9).keepX hx_old E2136 (by decide)
   have hk := hk.keepX hx_old E2136 (by decide)
   have hrest := hrest.keepG (Gr.of E2136) (Dj.one djpG) (NoK.ofBx hx_old (by decide))
   have hB1946 := hB1946.keep E2136 (fun hh => hB1946.ne hx_old (by decide) (Option.some.inj hh))
   have hT1962 := hT1962.keepG (Gr.of E2136) (Dj.one dj1971) (NoK.ofBx hx_old (by decide))
   have hT2_1962 := hT2_1962.keepG (Gr.of E2136) (Dj.one dj1977) (NoK.ofBx hx_old (by decide))
   have hu1962 := hu1962.keepX hx_old E2136 (by decide)
   have hB2100 := hB2100.keep E2136 (fun hh => hB2100.ne hx_old (by decide) (Option.some.inj hh))
   have hB2109 := hB2109.keep E2136 (fun hh => hB2109.ne hx_old (by decide) (Option.some.inj hh))
   have hO2115 := hO2115.keepX hx_old E2136 (by decide)
   have hO2124 := hO2124.keepX hx_old E2136 (by decide)
   have hb := hb.stepB E2136 hNd.wp
   refine ktk_end0 (G := fun t9 w' => 21 ∈ t9 → (Bx w' p 115 [(Value.slice none 0 0), kv, cv])) (todo := [21]) (i := 21) rfl (fun h => absurd h (by decide)) ?_
   intro w2137 E2137 a2137 hN2137 hd2137 hbs2137 hph2137
   have hd2137 := hd2137.trans ((by simp only [putsL_defers] : _ = _).trans hd)
   have z_w2137 := E2137.size
   have ks : ∀ x9 ∈ K, Own w2137 0 5 1 x9.1 x9.2.length (x9.2.map u8v) := fun x9 hx9 => (ks x9 hx9).keep0 E2137
   have hk := hk.keep0 E2137
   have hrest := hrest.keepG (Gr.of0 E2137 NoB) (fun _ _ h => h) (NoK.no _)
   have hB1946 := hB1946.keep0 E2137
   have hT1962 := hT1962.keepG (Gr.of0 E2137 NoB) (fun _ _ h => h) (NoK.no _)
   have hT2_1962 := hT2_1962.keepG (Gr.of0 E2137 NoB) (fun _ _ h => h) (NoK.no _)
   have hu1962 := hu1962.keep0 E2137
   have hB2100 := hB2100.keep0 E2137
   have hB2109 := hB2109.keep0 E2137
   have hO2115 := hO2115.keep0 E2137
   have hO2124 := hO2124.keep0 E2137
   have hx := hx.keep0 E2137
   have hb := hb.step0 E2137
   have s2137_0 := (hbs2137 0 rfl).trans (sl_base hN rfl s0)
   have s2137_4 := (hbs2137 4 rfl).trans (sl_hit hN rfl)
   have s2137_5 := (hbs2137 5 rfl).trans (sl_hit hN rfl)
   have s2137_6 := (hbs2137 6 rfl).trans (sl_hit hN rfl)
   have s2137_62 : Sl a2137 62 (ptr p 0) := (hph2137 1 _ 62 rfl rfl).2 rfl
   have s2137_79 : Sl a2137 79 v2124 := (Option.some.inj ((hph2137 18 _ 79 rfl rfl).1 rfl)).symm
   refine split_end ?_
   refine from_seq (tl := [_, _, _]) (by decide) (by kernel_rfl) rfl ?_
   refine op_nil (ev_base hN2137 rfl s2137_62) ?_
   refine op_field fld115_2 (ev_hit hN2137 rfl) ?_
   have hx_old := hx
   refine op_store (vs := [v2124]) (cs' := [(Value.slice none 0 0), v2115, v2124]) size113 (ev_hit hN2137 rfl) (ev_base hN2137 rfl s2137_79) hO2124.cl rfl (by simp only [List.all_cons, List.all_nil, Bool.true_and, Bool.and_true, hO2124.one]; try rfl) hx (Nat.le_of_ble_eq_true rfl) rfl ?_
   intro w2140 hx E2141
   have z_w2140 := E2141.size
   have ks : ∀ x9 ∈ K, Own w2140 0 5 1 x9.1 x9.2.length (x9.2.map u8v) := fun x9 hx9 => (ks x9 hx9).keepX hx_old E2141 (by decide)
   have hk := hk.keepX hx_old E2141 (by decide)
   have hrest := hrest.keepG (Gr.of E2141) (Dj.one djpG) (NoK.ofBx hx_old (by decide))
   have hB1946 := hB1946.keep E2141 (fun hh => hB1946.ne hx_old (by decide) (Option.some.inj hh))
   have hT1962 := hT1962.keepG (Gr.of E2141) (Dj.one dj1971) (NoK.ofBx hx_old (by decide))
   have hT2_1962 := hT2_1962.keepG (Gr.of E2141) (Dj.one dj1977) (NoK.ofBx hx_old (by decide))
   have hu1962 := hu1962.keepX hx_old E2141 (by decide)
   have hB2100 := hB2100.keep E2141 (fun hh => hB2100.ne hx_old (by decide) (Option.some.inj hh))
   have hB2109 := hB2109.keep E2141 (fun hh => hB2109.ne hx_old (by decide) (Option.some.inj hh))
   have hO2115 := hO2115.keepX hx_old E2141 (by decide)
   have hO2124 := hO2124.keepX hx_old E2141 (by decide)
   have hb := hb.stepB E2141 hNd.wp
   refine reg_nil ?_
   refine hK1949 _ _ ?_
   refine seq_any fun K2142 hK2142 => ?_
   refine one_reg ?_
   have hl1 : (K.insertIdx (way (K.map Prod.snd) k) (u1962, y1962)).length = K.length + 1 := by rw [List.length_insertIdx, if_pos hwl]
   have hl2 : (P.insertIdx (((way (K.map Prod.snd) k)) + 1) q1962).length = P.length + 1 := by rw [List.length_insertIdx, if_pos (by omega)]
   have ks2143 : ∀ x9 ∈ (K.insertIdx (way (K.map Prod.snd) k) (u1962, y1962)), Own w2140 0 5 1 x9.1 x9.2.length (x9.2.map u8v) := kks_ins ks hu1962 hwl
   refine op_move (ev_base hN2137 rfl s2137_0) ?_
   rcases Bool.eq_false_or_eq_true (decide ((K.insertIdx (way (K.map Prod.snd) k) (u1962, y1962)).length ≤ 6)) with k86 | k86
   · -- 86T
    refine op_fn (vs := [(ptr p 0)]) ok86 ⟨(ev_hit hN2137 rfl), trivial⟩ (Ret.flip (halvesNsI hx hO2115 hO2124 (by first | omega | (simp only [List.length_insertIdx, List.length_set, List.length_drop, List.length_take]; omega) | (simp; omega)) (of_decide_eq_true k86))) ?_
    rintro _ _ ⟨rfl, rfl⟩
    refine op_move (ev_hit hN2137 rfl) ?_
    refine op_extract (ev_hit hN2137 rfl) rfl ?_
    refine op_extract (ev_hit hN2137 rfl) rfl ?_
    refine op_assign (ev_hit hN2137 rfl) ?_
    refine op_assign (ev_hit hN2137 rfl) ?_
    refine reg_nil ?_
    refine hK2142 _ _ ?_
    refine seq_any fun K2144 hK2144 => ?_
    refine one_reg ?_
    refine op_move (ev_base hN2137 rfl s2137_4) ?_
    refine op_move (ev_hit hN2137 rfl) ?_
    refine op_move (ev_hit hN2137 rfl) ?_
    refine op_assign (ev_hit hN2137 rfl) ?_
    refine op_assign (ev_hit hN2137 rfl) ?_
    refine op_assign (ev_hit hN2137 rfl) ?_
    refine reg_nil ?_
    refine hK2144 _ _ ?_
    refine wp_ret ?_
    refine retN (rs := [.tmp 4, .tmp 5, .tmp 6]) (vs := [(Value.bool (putT h k x c).1), (Value.slice none 0 0), (Value.pointer none)]) rfl hd2137 ⟨(ev_hit hN2137 rfl), ⟨(ev_hit hN2137 rfl), ⟨(ev_hit hN2137 rfl), trivial⟩⟩⟩ rfl ⟨_, rfl, ?_⟩
    -- path 55T 86T
    exact ⟨hb, _, _, by rw [(put_some (u := u1962) hc hr1962 hwl)]; rfl, out_node_small (K := (K.insertIdx (way (K.map Prod.snd) k) (u1962, y1962))) (ts := ((cs.set (way (K.map Prod.snd) k) (putT h k x c).2.1).insertIdx ((way (K.map Prod.snd) k) + 1) t2_1962)) ((congrArg Prod.snd (put_some (u := u1962) hc hr1962 hwl)).trans (halves_nsmall (by simpa using of_decide_eq_true k86))) hx hO2115 hO2124 ks2143 (kks_ins hNd.kr hur1962 hwl) (Kids.ins (i := (way (K.map Prod.snd) k) + 1) (Kids.back1 (i := (way (K.map Prod.snd) k)) (A := TreeR kI R w2140 h) hrest hPc hic hT1962 dj1975.symm) (by rw [List.length_set]; omega) hT2_1962 (fun k h1 h2 => h2.elim (hd1962.symm k h1) (dj1981.symm k h1))) (fun h9 => h9.elim (fun h8 => dj1977 h8) (fun h8 => h8.elim (fun h8 => dj1971 h8) (fun h8 => djpG h8))) (fun j hj h9 => h9.elim (fun h8 => dj2120.symm j hj h8) (fun h8 => h8.elim (fun h8 => dj2119.symm j hj h8) (fun h8 => dj2118.symm j hj h8))) (fun j hj h9 => h9.elim (fun h8 => dj2129.symm j hj h8) (fun h8 => h8.elim (fun h8 => dj2128.symm j hj h8) (fun h8 => dj2127.symm j hj h8))) (nodeW_in (fun _ => hNd.wp) hin2121 hin2130 (fun j hj h9 => h9.elim (fun h8 => hin1984 j hj h8) (fun h8 => h8.elim (fun h8 => hin1983 j hj h8) (fun h8 => (fun j _ q => hNd.wg j (hGs j q)) j hj h8))))⟩
   · -- 86F
    refine op_fn (vs := [(ptr p 0)]) ok86 ⟨(ev_hit hN2137 rfl), trivial⟩ (halvesNbI hx hO2115 hO2124 ks2143 (by first | omega | (simp only [List.length_insertIdx, List.length_set, List.length_drop, List.length_take]; omega) | (simp; omega)) (by have := of_decide_eq_false k86; omega) (by first | omega | (simp only [List.length_insertIdx, List.length_set, List.length_drop, List.length_take]; omega) | (simp; omega))) ?_
    rintro _ w2146 ⟨E2147, q2145, qk2145, qc2145, rfl, hx2145, oa2145, ob2145, lo2145, hB2145, oc2145, od2145⟩
    have ht2148 := hx.lt
    have ht2149 := hO2115.lt
    have ht2150 := hO2124.lt
    have ht2151 := hrest.lt
    have ht2152 := hT1962.lt
    have ht2153 := hT2_1962.lt
    have E2147 := E2147.grown (row := some p) (fun k _ h => by rw [h])
    have hx_old := hx
    have z_w2146 := E2147.size
    have ks : ∀ x9 ∈ K, Own w2146 0 5 1 x9.1 x9.2.length (x9.2.map u8v) := fun x9 hx9 => (ks x9 hx9).keepX hx_old E2147 (by decide)
    have hk := hk.keepX hx_old E2147 (by decide)
    have hrest := hrest.keepG (Gr.of E2147) (Dj.one djpG) (NoK.ofBx hx_old (by decide))
    have hB1946 := hB1946.keep E2147 (fun hh => hB1946.ne hx_old (by decide) (Option.some.inj hh))
    have hT1962 := hT1962.keepG (Gr.of E2147) (Dj.one dj1971) (NoK.ofBx hx_old (by decide))
    have hT2_1962 := hT2_1962.keepG (Gr.of E2147) (Dj.one dj1977) (NoK.ofBx hx_old (by decide))
    have hu1962 := hu1962.keepX hx_old E2147 (by decide)
    have hB2100 := hB2100.keep E2147 (fun hh => hB2100.ne hx_old (by decide) (Option.some.inj hh))
    have hB2109 := hB2109.keep E2147 (fun hh => hB2109.ne hx_old (by decide) (Option.some.inj hh))
    have ks2143 : ∀ x9 ∈ (K.insertIdx (way (K.map Prod.snd) k) (u1962, y1962)), Own w2146 0 5 1 x9.1 x9.2.length (x9.2.map u8v) := fun x9 hx9 => (ks2143 x9 hx9).keepX hx_old E2147 (by decide)
    have hb := hb.stepB E2147 hNd.wp
    refine op_move (ev_hit hN2137 rfl) ?_
    refine op_extract (ev_hit hN2137 rfl) rfl ?_
    refine op_extract (ev_hit hN2137 rfl) rfl ?_
    refine op_assign (ev_hit hN2137 rfl) ?_
    refine op_assign (ev_hit hN2137 rfl) ?_
    refine reg_nil ?_
    refine hK2142 _ _ ?_
    refine seq_any fun K2154 hK2154 => ?_
    refine one_reg ?_
    refine op_move (ev_base hN2137 rfl s2137_4) ?_
    refine op_move (ev_hit hN2137 rfl) ?_
    refine op_move (ev_hit hN2137 rfl) ?_
    refine op_assign (ev_hit hN2137 rfl) ?_
    refine op_assign (ev_hit hN2137 rfl) ?_
    refine op_assign (ev_hit hN2137 rfl) ?_
    refine reg_nil ?_
    refine hK2154 _ _ ?_
    refine wp_ret ?_
    refine retN (rs := [.tmp 4, .tmp 5, .tmp 6]) (vs := [(Value.bool (putT h k x c).1), ((K.insertIdx (way (K.map Prod.snd) k) (u1962, y1962)).getD ((K.insertIdx (way (K.map Prod.snd) k) (u1962, y1962)).length / 2) default).1, (ptr q2145 0)]) rfl hd2137 ⟨(ev_hit hN2137 rfl), ⟨(ev_hit hN2137 rfl), ⟨(ev_hit hN2137 rfl), trivial⟩⟩⟩ rfl ⟨_, rfl, ?_⟩
    -- path 55T 86F
    exact ⟨hb, _, _, by rw [(put_some (u := u1962) hc hr1962 hwl)]; rfl, out_node_big (K := (K.insertIdx (way (K.map Prod.snd) k) (u1962, y1962))) (ts := ((cs.set (way (K.map Prod.snd) k) (putT h k x c).2.1).insertIdx ((way (K.map Prod.snd) k) + 1) t2_1962)) ((congrArg Prod.snd (put_some (u := u1962) hc hr1962 hwl)).trans (halves_nbig (by have := of_decide_eq_false k86; omega))) (by have := of_decide_eq_false k86; omega) hx2145 oa2145 ob2145 hB2145 oc2145 od2145 lo2145 (by omega) ks2143 (kks_ins hNd.kr hur1962 hwl) (Kids.ins (i := (way (K.map Prod.snd) k) + 1) (Kids.back1 (i := (way (K.map Prod.snd) k)) (A := TreeR kI R w2146 h) hrest hPc hic hT1962 dj1975.symm) (by rw [List.length_set]; omega) hT2_1962 (fun k h1 h2 => h2.elim (hd1962.symm k h1) (dj1981.symm k h1))) (fun h9 => h9.elim (fun h8 => dj1977 h8) (fun h8 => h8.elim (fun h8 => dj1971 h8) (fun h8 => djpG h8))) (fun j hj h9 => h9.elim (fun h8 => dj2120.symm j ((hiV_ob _ _).symm.trans hj) h8) (fun h8 => h8.elim (fun h8 => dj2119.symm j ((hiV_ob _ _).symm.trans hj) h8) (fun h8 => dj2118.symm j ((hiV_ob _ _).symm.trans hj) h8))) (fun j hj h9 => h9.elim (fun h8 => dj2129.symm j ((hiV_ob _ _).symm.trans hj) h8) (fun h8 => h8.elim (fun h8 => dj2128.symm j ((hiV_ob _ _).symm.trans hj) h8) (fun h8 => dj2127.symm j ((hiV_ob _ _).symm.trans hj) h8))) (nodeW_in (fun _ => hNd.wp) (inF_step (n := w.heap.size) (.inl (hiV_ob _ _)) (Nat.le_refl _) hin2121) (inF_step (n := w.heap.size) (.inl (hiV_ob _ _)) (Nat.le_refl _) hin2130) (fun j hj h9 => h9.elim (fun h8 => hin1984 j hj h8) (fun h8 => h8.elim (fun h8 => hin1983 j hj h8) (fun h8 => (fun j _ q => hNd.wg j (hGs j q)) j hj h8)))) (nodeW_lt ht2148 (fun j h9 => (ht2149 j ((hiV_ob _ _).symm.trans h9)).2) (fun j h9 => (ht2150 j ((hiV_ob _ _).symm.trans h9)).2) (fun j h9 => h9.elim (fun h8 => (ht2153 j h8).2) (fun h8 => h8.elim (fun h8 => (ht2152 j h8).2) (fun h8 => (ht2151 j h8).2))))⟩
 · -- 55F
  refine op_fn (vs := [(ptr (P.getD ((way (K.map Prod.snd) k)) default) 0), (Value.agg #[yv, (Value.int .i64 x)])]) ok48 ⟨(ev_hit hN rfl), ⟨(ev_hit hN rfl), trivial⟩⟩ (IH hkid hcO (by have := (hz c (List.mem_of_getElem? hc)).2; omega) hk hkr) ?_
  rintro _ w2156 ⟨E2157, u2155, m2155, rfl, ho2155⟩
  have bd2158 := hx.lt
  have bd2159 := ok.lt
  have bd2160 := oc.lt
  have bd2161 := hk.lt
  have bd2162 := hrest.lt
  have bd2163 := hB1946.lt
  obtain ⟨hr2155, rfl, rfl, W1_2155, hT2155, hN1_2155⟩ := outR_none k55 ho2155
  have hkid_old := hkid
  have z_w2156 := E2157.size
  have hx := hx.keepG E2157 djpf
  have ok := ok.keepG E2157 djkf
  have oc := oc.keepG E2157 djcf
  have ks : ∀ x9 ∈ K, Own w2156 0 5 1 x9.1 x9.2.length (x9.2.map u8v) := fun x9 hx9 => (ks x9 hx9).keepG E2157 (hkid_old.notOwn (ks x9 hx9) (by decide) (by decide) (by decide) (by decide))
  have hk := hk.keepG E2157 (hkid_old.notOwn hk (by decide) (by decide) (by decide) (by decide))
  have hrest := hrest.keepG E2157 hfG.symm (hkid_old.noK kI_fine)
  have hB1946 := hB1946.keepG E2157 dj1947
  have hb := hb.stepF E2157 (fun k _ h => hNd.wg k (hfs k h))
  have dj2164 : ¬ W1_2155 p := ne_stepF hN1_2155 bd2158 djpf
  have dj2165 : Dj (Bl kv) W1_2155 := Dj.stepF hN1_2155 (fun k hk => (bd2159 k hk).2) djkf
  have dj2166 : Dj (Bl cv) W1_2155 := Dj.stepF hN1_2155 (fun k hk => (bd2160 k hk).2) djcf
  have dj2168 : Dj G0 W1_2155 := Dj.stepF hN1_2155 (fun k hk => (bd2162 k hk).2) hfG.symm
  have dj2169 : ¬ W1_2155 b1944 := ne_stepF hN1_2155 bd2163 dj1947
  have hin2170 := in_newF (hN1_2155.mono (t := w.heap.size) (by omega)) (fun k hk => hNd.wg k (hfs k hk))
  refine from_next ?_
  refine from_still (m := 16) 7 (hd := [_, _, _, _, _, _, _]) (by kernel_rfl) rfl rfl ?_
  refine st_step rfl (fun _ h9 => op_move (ev_hit hN rfl) h9) ?_
  refine st_step rfl (fun _ h9 => op_extract (ev_hit hN rfl) rfl h9) ?_
  refine st_step rfl (fun _ h9 => op_extract (ev_hit hN rfl) rfl h9) ?_
  refine st_step rfl (fun _ h9 => op_extract (ev_hit hN rfl) rfl h9) ?_
  refine st_step rfl (fun _ h9 => op_assign (ev_hit hN rfl) h9) ?_
  refine st_step rfl (fun _ h9 => op_assign (ev_hit hN rfl) h9) ?_
  refine st_step rfl (fun _ h9 => op_assign (ev_hit hN rfl) h9) ?_
  refine st_nil ?_
  refine from_end ?_ rfl
  refine hK1956 _ _ ?_
  refine seq_any fun K2171 hK2171 => ?_
  refine one_reg ?_
  refine op_move (ev_hit hN rfl) ?_
  refine op_pne_none ptrt69 (ev_hit hN rfl) rfl ?_
  refine reg_nil ?_
  refine hK2171 _ _ ?_
  refine wp_cond_false (ev_hit hN rfl) ?_
  refine wp_skip ?_
  refine hK1949 _ _ ?_
  refine seq_any fun K2172 hK2172 => ?_
  refine one_reg ?_
  skip
  refine op_move (ev_base hN rfl s0) ?_
  rcases Bool.eq_false_or_eq_true (decide (K.length ≤ 6)) with k86 | k86
  · -- 86T
   refine op_fn (vs := [(ptr p 0)]) ok86 ⟨(ev_hit hN rfl), trivial⟩ (Ret.flip (halvesNsI hx ok oc (by first | omega | (simp only [List.length_insertIdx, List.length_set, List.length_drop, List.length_take]; omega) | (simp; omega)) (of_decide_eq_true k86))) ?_
   rintro _ _ ⟨rfl, rfl⟩
   refine op_move (ev_hit hN rfl) ?_
   refine op_extract (ev_hit hN rfl) rfl ?_
   refine op_extract (ev_hit hN rfl) rfl ?_
   refine op_assign (ev_hit hN rfl) ?_
   refine op_assign (ev_hit hN rfl) ?_
   refine reg_nil ?_
   refine hK2172 _ _ ?_
   refine seq_any fun K2173 hK2173 => ?_
   refine one_reg ?_
   refine op_move (ev_hit hN rfl) ?_
   refine op_move (ev_hit hN rfl) ?_
   refine op_move (ev_hit hN rfl) ?_
   refine op_assign (ev_hit hN rfl) ?_
   refine op_assign (ev_hit hN rfl) ?_
   refine op_assign (ev_hit hN rfl) ?_
   refine reg_nil ?_
   refine hK2173 _ _ ?_
   refine wp_ret ?_
   refine retN (rs := [.tmp 4, .tmp 5, .tmp 6]) (vs := [(Value.bool (putT h k x c).1), (Value.slice none 0 0), (Value.pointer none)]) rfl hd ⟨(ev_hit hN rfl), ⟨(ev_hit hN rfl), ⟨(ev_hit hN rfl), trivial⟩⟩⟩ rfl ⟨_, rfl, ?_⟩
   -- path 55F 86T
   exact ⟨hb, _, _, by rw [(put_none hc hr2155)]; rfl, out_node_small (K := K) (ts := (cs.set (way (K.map Prod.snd) k) (putT h k x c).2.1)) ((congrArg Prod.snd (put_none hc hr2155)).trans (halves_nsmall (by simpa using of_decide_eq_true k86))) hx ok oc ks hNd.kr (Kids.back1 (i := (way (K.map Prod.snd) k)) (A := TreeR kI R w2156 h) hrest hPc hic hT2155 dj2168.symm) (fun h9 => h9.elim (fun h8 => dj2164 h8) (fun h8 => djpG h8)) (fun j hj h9 => h9.elim (fun h8 => dj2165 j hj h8) (fun h8 => djkG j hj h8)) (fun j hj h9 => h9.elim (fun h8 => dj2166 j hj h8) (fun h8 => djcG j hj h8)) (nodeW_in (fun _ => hNd.wp) (fun k _ h => hNd.wk k h) (fun k _ h => hNd.wc k h) (fun j hj h9 => h9.elim (fun h8 => hin2170 j hj h8) (fun h8 => (fun j _ q => hNd.wg j (hGs j q)) j hj h8)))⟩
  · -- 86F
   refine op_fn (vs := [(ptr p 0)]) ok86 ⟨(ev_hit hN rfl), trivial⟩ (halvesNbI hx ok oc ks (by first | omega | (simp only [List.length_insertIdx, List.length_set, List.length_drop, List.length_take]; omega) | (simp; omega)) (by have := of_decide_eq_false k86; omega) (by first | omega | (simp only [List.length_insertIdx, List.length_set, List.length_drop, List.length_take]; omega) | (simp; omega))) ?_
   rintro _ w2175 ⟨E2176, q2174, qk2174, qc2174, rfl, hx2174, oa2174, ob2174, lo2174, hB2174, oc2174, od2174⟩
   have ht2177 := hx.lt
   have ht2178 := ok.lt
   have ht2179 := oc.lt
   have ht2180 := hrest.lt
   have ht2181 := hT2155.lt
   have E2176 := E2176.grown (row := some p) (fun k _ h => by rw [h])
   have hx_old := hx
   have z_w2175 := E2176.size
   have ks : ∀ x9 ∈ K, Own w2175 0 5 1 x9.1 x9.2.length (x9.2.map u8v) := fun x9 hx9 => (ks x9 hx9).keepX hx_old E2176 (by decide)
   have hk := hk.keepX hx_old E2176 (by decide)
   have hrest := hrest.keepG (Gr.of E2176) (Dj.one djpG) (NoK.ofBx hx_old (by decide))
   have hB1946 := hB1946.keep E2176 (fun hh => hB1946.ne hx_old (by decide) (Option.some.inj hh))
   have hT2155 := hT2155.keepG (Gr.of E2176) (Dj.one dj2164) (NoK.ofBx hx_old (by decide))
   have hb := hb.stepB E2176 hNd.wp
   refine op_move (ev_hit hN rfl) ?_
   refine op_extract (ev_hit hN rfl) rfl ?_
   refine op_extract (ev_hit hN rfl) rfl ?_
   refine op_assign (ev_hit hN rfl) ?_
   refine op_assign (ev_hit hN rfl) ?_
   refine reg_nil ?_
   refine hK2172 _ _ ?_
   refine seq_any fun K2182 hK2182 => ?_
   refine one_reg ?_
   refine op_move (ev_hit hN rfl) ?_
   refine op_move (ev_hit hN rfl) ?_
   refine op_move (ev_hit hN rfl) ?_
   refine op_assign (ev_hit hN rfl) ?_
   refine op_assign (ev_hit hN rfl) ?_
   refine op_assign (ev_hit hN rfl) ?_
   refine reg_nil ?_
   refine hK2182 _ _ ?_
   refine wp_ret ?_
   refine retN (rs := [.tmp 4, .tmp 5, .tmp 6]) (vs := [(Value.bool (putT h k x c).1), (K.getD (K.length / 2) default).1, (ptr q2174 0)]) rfl hd ⟨(ev_hit hN rfl), ⟨(ev_hit hN rfl), ⟨(ev_hit hN rfl), trivial⟩⟩⟩ rfl ⟨_, rfl, ?_⟩
   -- path 55F 86F
   exact ⟨hb, _, _, by rw [(put_none hc hr2155)]; rfl, out_node_big (K := K) (ts := (cs.set (way (K.map Prod.snd) k) (putT h k x c).2.1)) ((congrArg Prod.snd (put_none hc hr2155)).trans (halves_nbig (by have := of_decide_eq_false k86; omega))) (by have := of_decide_eq_false k86; omega) hx2174 oa2174 ob2174 hB2174 oc2174 od2174 lo2174 (by omega) ks hNd.kr (Kids.back1 (i := (way (K.map Prod.snd) k)) (A := TreeR kI R w2175 h) hrest hPc hic hT2155 dj2168.symm) (fun h9 => h9.elim (fun h8 => dj2164 h8) (fun h8 => djpG h8)) (fun j hj h9 => h9.elim (fun h8 => dj2165 j ((hiV_ob _ _).symm.trans hj) h8) (fun h8 => djkG j ((hiV_ob _ _).symm.trans hj) h8)) (fun j hj h9 => h9.elim (fun h8 => dj2166 j ((hiV_ob _ _).symm.trans hj) h8) (fun h8 => djcG j ((hiV_ob _ _).symm.trans hj) h8)) (nodeW_in (fun _ => hNd.wp) (inF_step (n := w.heap.size) (.inl (hiV_ob _ _)) (Nat.le_refl _) (fun k _ h => hNd.wk k h)) (inF_step (n := w.heap.size) (.inl (hiV_ob _ _)) (Nat.le_refl _) (fun k _ h => hNd.wc k h)) (fun j hj h9 => h9.elim (fun h8 => hin2170 j hj h8) (fun h8 => (fun j _ q => hNd.wg j (hGs j q)) j hj h8))) (nodeW_lt ht2177 (fun j h9 => (ht2178 j ((hiV_ob _ _).symm.trans h9)).2) (fun j h9 => (ht2179 j ((hiV_ob _ _).symm.trans h9)).2) (fun j h9 => h9.elim (fun h8 => (ht2181 j h8).2) (fun h8 => (ht2180 j h8).2)))⟩

end Go.Proofs.Ytcpfdfejojghbaa

/- Walks, written by a program: what each function of the translation hands back. -/
namespace Go.Proofs.Ytcpfdfejojghbaa
open Go.Gx Go.RowKit
attribute [local irreducible] wpList wpStill Code.wp Calls
open Go.Bt
end Go.Proofs.Ytcpfdfejojghbaa

/- Walks, written by a program: what each function of the translation hands back. -/
namespace Go.Proofs.Ytcpfdfejojghbaa
open Go.Gx Go.RowKit
attribute [local irreducible] wpList wpStill Code.wp Calls
open Go.Bt
end Go.Proofs.Ytcpfdfejojghbaa

/- Walks, written by a program: what each function of the translation hands back. -/
namespace Go.Proofs.Ytcpfdfejojghbaa
open Go.Gx Go.RowKit
attribute [local irreducible] wpList wpStill Code.wp Calls
open Go.Bt
theorem putAllI : ∀ h, PutI h
  | 0 => by
    intro k yv x R W p t w T hO h6 hk hkr
    obtain ⟨pv, D, hL, e⟩ := T
    have e' : (D.map Prod.snd : List (Ky × (Int))) = t := e
    subst e'
    exact putLI hL (show Sorted ((D.map Prod.snd).map Prod.fst) from hO) (by have h9 : (D.map Prod.snd).length ≤ 6 := h6; simpa using h9) hk hkr
  | h + 1 => by
    intro k yv x R W p t w T hO h6 hk hkr
    obtain ⟨kv, cv, K, P, G, hN, hKs, e⟩ := T
    obtain ⟨kl, cs⟩ := t
    have e' : K.map Prod.snd = kl := e
    subst e'
    obtain ⟨h1, h2⟩ := ok_node.1 hO
    exact putNI (putAllI h) hN hKs h1 h2 (by have h9 : (K.map Prod.snd).length ≤ 6 := h6; simpa using h9) hk hkr
end Go.Proofs.Ytcpfdfejojghbaa

/- Whole trees, plainly: the root may be missing. -/
namespace Go.Bt
abbrev TO (V : Type) := Option ((h : Nat) × Tr V h)
section
variable {V : Type} {h : Nat} {k : Ky} {x : V} {o : TO V} {t : Tr V h}
def grown (h : Nat) (t : Tr V h) : Option (Ky × Tr V h) → TO V
  | none => some ⟨h, t⟩
  | some (u, m) => some ⟨h + 1, (([u], [t, m]) : List Ky × List (Tr V h))⟩
def putO (k : Ky) (x : V) : TO V → Bool × TO V
  | none => (false, some ⟨0, ([(k, x)] : List (Ky × V))⟩)
  | some ⟨h, t⟩ => ((putT h k x t).1, grown h (putT h k x t).2.1 (putT h k x t).2.2)
/-- The root, where it has one kid alone or nothing. -/
def shrunk : (h : Nat) → Tr V h → TO V
  | 0, ps => let l : List (Ky × V) := ps; if l.length = 0 then none else some ⟨0, (l : List (Ky × V))⟩
  | h + 1, t => if t.2.length = 1 then some ⟨h, t.2.getD 0 default⟩ else some ⟨h + 1, t⟩
def dropO (k : Ky) : TO V → Bool × TO V
  | none => (false, none)
  | some ⟨h, t⟩ => ((dropT h k t).1, shrunk h (dropT h k t).2)
def toLO : TO V → List (Ky × V)
  | none => []
  | some ⟨h, t⟩ => toL h t
def OkO : TO V → Prop
  | none => True
  | some ⟨h, t⟩ => Ok h t ∧ 1 ≤ szT h t ∧ szT h t ≤ 6
theorem toL_sorted : ∀ {h : Nat} {t : Tr V h}, Ok h t → Sorted ((toL h t).map Prod.fst)
  | 0, t, H => H
  | h + 1, (ks, cs), H => by
    obtain ⟨N, hs⟩ := ok_node.1 H
    show Sorted ((cs.flatMap (toL h)).map Prod.fst)
    rw [List.map_flatMap, Sorted, List.pairwise_flatMap]
    refine ⟨fun c hc => ?_, ?_⟩
    · obtain ⟨i, hi, rfl⟩ := List.getElem_of_mem hc
      exact toL_sorted (N.2.2 i _ (List.getElem?_eq_getElem hi)).1
    · rw [List.pairwise_iff_getElem]
      intro i j hi hj hij a ha b hb
      obtain ⟨p, hp, rfl⟩ := List.mem_map.1 ha
      obtain ⟨q, hq, rfl⟩ := List.mem_map.1 hb
      have h1 := (N.2.2 i _ (List.getElem?_eq_getElem hi)).2 _ (dom_of_toL hp)
      have h2 := (N.2.2 j _ (List.getElem?_eq_getElem hj)).2 _ (dom_of_toL hq)
      exact lt_of_way (ks := ks) (by omega)
theorem toLO_sorted (H : OkO o) : Sorted ((toLO o).map Prod.fst) := by
  match o, H with
  | none, _ => exact List.Pairwise.nil
  | some ⟨h, t⟩, H => exact toL_sorted H.1
theorem putO_ok (H : OkO o) : OkO (putO k x o).2 ∧ ((putO k x o).1 = true ↔ ∃ p ∈ toLO o, p.1 = k) ∧ ∀ p, p ∈ toLO (putO k x o).2 ↔ PutM (fun p => p ∈ toLO o) k x p := by
  match o, H with
  | none, _ =>
    refine ⟨⟨show Sorted [k] from List.pairwise_singleton _ _, Nat.le_refl _, show 1 ≤ 6 from by decide⟩, ⟨fun h => (by cases h), fun ⟨p, hp, _⟩ => (by cases hp)⟩, fun p => ?_⟩
    show p ∈ [(k, x)] ↔ p = (k, x) ∨ (p.1 ≠ k ∧ p ∈ [])
    simp
  | some ⟨h, t⟩, ⟨H, h1, h6⟩ =>
    obtain ⟨a, b⟩ := put_ok (k := k) (v := x) (D := fun _ => True) H h6 (fun _ _ => trivial) trivial
    refine ⟨?_, a, ?_⟩
    · show OkO (grown h (putT h k x t).2.1 (putT h k x t).2.2)
      revert b
      generalize (putT h k x t).2.1 = t1
      cases (putT h k x t).2.2 with
      | none => exact fun b => ⟨b.1, by have := b.2.1; omega, b.2.2.1⟩
      | some q =>
        obtain ⟨u, m⟩ := q
        intro b
        obtain ⟨b1, b2, b3, b4, b5, b6, b7, b8⟩ := b
        refine ⟨ok_node.2 ⟨⟨rfl, List.pairwise_singleton _ _, fun i c hc => ?_⟩, fun c hc => ?_⟩, Nat.le_refl _, show 1 ≤ 6 from by decide⟩
        · match i, hc with
          | 0, hc =>
            have e : t1 = c := by simpa using hc
            subst e
            exact ⟨b1, fun y hy => way_none fun z hz => by rw [List.mem_singleton.1 hz]; exact (b5 y hy).2⟩
          | 1, hc =>
            have e : m = c := by simpa using hc
            subst e
            exact ⟨b2, fun y hy => by rw [way_all fun z hz => by rw [List.mem_singleton.1 hz]; exact (b6 y hy).2]; rfl⟩
          | i + 2, hc => simp at hc
        · rcases List.mem_cons.1 hc with rfl | hc
          · exact b3
          · rw [List.mem_singleton.1 hc]; exact b4
    · show ∀ p, p ∈ toLO (grown h (putT h k x t).2.1 (putT h k x t).2.2) ↔ _
      revert b
      generalize (putT h k x t).2.1 = t1
      cases (putT h k x t).2.2 with
      | none => exact fun b => b.2.2.2.2
      | some q =>
        obtain ⟨u, m⟩ := q
        intro b p
        refine Iff.trans ?_ (b.2.2.2.2.2.2.2 p)
        show p ∈ [t1, m].flatMap (toL h) ↔ _
        simp
theorem shrunk_ok : ∀ {h : Nat} {t1 : Tr V h}, Ok h t1 → szT h t1 ≤ 6 → OkO (shrunk h t1) ∧ toLO (shrunk h t1) = toL h t1
  | 0, t1, H, h6 => by
    obtain ⟨l, hl⟩ : ∃ l : List (Ky × V), l = t1 := ⟨t1, rfl⟩
    subst hl
    have h6' : l.length ≤ 6 := h6
    by_cases hl : l.length = 0
    · have e : shrunk 0 (l : Tr V 0) = none := if_pos hl
      rw [e]
      exact ⟨trivial, (List.eq_nil_of_length_eq_zero hl).symm⟩
    · have e : shrunk 0 (l : Tr V 0) = some ⟨0, l⟩ := if_neg hl
      rw [e]
      exact ⟨⟨H, show 1 ≤ l.length by omega, h6⟩, rfl⟩
  | h + 1, (ks, cs), H, h6 => by
    obtain ⟨N, hs⟩ := ok_node.1 H
    have hk : cs.length = ks.length + 1 := N.1
    by_cases hl : cs.length = 1
    · have e : shrunk (h + 1) ((ks, cs) : Tr V (h + 1)) = some ⟨h, cs.getD 0 default⟩ := if_pos hl
      rw [e]
      obtain ⟨c0, rfl⟩ : ∃ c0, cs = [c0] := List.length_eq_one_iff.1 hl
      have := hs c0 (List.mem_singleton.2 rfl)
      refine ⟨⟨(N.2.2 0 c0 rfl).1, show 1 ≤ szT h c0 by have := this.1; omega, this.2⟩, ?_⟩
      show toL h c0 = [c0].flatMap (toL h)
      simp
    · have e : shrunk (h + 1) ((ks, cs) : Tr V (h + 1)) = some ⟨h + 1, (ks, cs)⟩ := if_neg hl
      rw [e]
      exact ⟨⟨H, show 1 ≤ ks.length by omega, h6⟩, rfl⟩
theorem dropO_ok (H : OkO o) : OkO (dropO k o).2 ∧ ((dropO k o).1 = true ↔ ∃ p ∈ toLO o, p.1 = k) ∧ ∀ p, p ∈ toLO (dropO k o).2 ↔ p.1 ≠ k ∧ p ∈ toLO o := by
  match o, H with
  | none, _ => exact ⟨trivial, ⟨fun h => (by cases h), fun ⟨p, hp, _⟩ => (by cases hp)⟩, fun p => ⟨fun h => (by cases h), fun h => (by cases h.2)⟩⟩
  | some ⟨h, t⟩, ⟨H, h1, h6⟩ =>
    obtain ⟨a, b, c, d, e, f⟩ := drop_ok (k := k) H (.inr h1)
    obtain ⟨s1, s2⟩ := shrunk_ok b (Nat.le_trans c h6)
    refine ⟨s1, a, fun p => ?_⟩
    show p ∈ toLO (shrunk h (dropT h k t).2) ↔ _
    rw [s2]
    exact f p
/-- Lists in order of the same members are the same. -/
theorem sorted_ext : ∀ {a b : List (Ky × V)}, Sorted (a.map Prod.fst) → Sorted (b.map Prod.fst) → (∀ p, p ∈ a ↔ p ∈ b) → a = b
  | [], [], _, _, _ => rfl
  | [], q :: b, _, _, h => by have := (h q).2 (List.mem_cons_self ..); cases this
  | p :: a, [], _, _, h => by have := (h p).1 (List.mem_cons_self ..); cases this
  | p :: a, q :: b, ha, hb, h => by
    have ha' := List.pairwise_cons.1 (show Sorted (p.1 :: a.map Prod.fst) from ha)
    have hb' := List.pairwise_cons.1 (show Sorted (q.1 :: b.map Prod.fst) from hb)
    have e : p = q := by
      have h1 := (h p).1 (List.mem_cons_self ..)
      have h2 := (h q).2 (List.mem_cons_self ..)
      rcases List.mem_cons.1 h1 with e | h1
      · exact e
      · rcases List.mem_cons.1 h2 with e | h2
        · exact e.symm
        · have q1 := hb'.1 _ (List.mem_map.2 ⟨p, h1, rfl⟩)
          have q2 := ha'.1 _ (List.mem_map.2 ⟨q, h2, rfl⟩)
          grind
    subst e
    have hp : ∀ r ∈ a, r ≠ p := fun r hr e => by
      have := ha'.1 _ (List.mem_map.2 ⟨r, hr, rfl⟩)
      rw [e] at this; grind
    have hq : ∀ r ∈ b, r ≠ p := fun r hr e => by
      have := hb'.1 _ (List.mem_map.2 ⟨r, hr, rfl⟩)
      rw [e] at this; grind
    rw [sorted_ext ha'.2 hb'.2 fun r => ⟨fun hr => by
      rcases List.mem_cons.1 ((h r).1 (List.mem_cons_of_mem _ hr)) with e | h3
      · exact absurd e (hp r hr)
      · exact h3, fun hr => by
      rcases List.mem_cons.1 ((h r).2 (List.mem_cons_of_mem _ hr)) with e | h3
      · exact absurd e (hq r hr)
      · exact h3⟩]
/-! levels -/
def lvl : (h : Nat) → List (Tr V h) → List (List Nat)
  | 0, now => [now.map (szT 0)]
  | h + 1, now => now.map (szT (h + 1)) :: lvl h (now.flatMap fun t => t.2)
def levels : TO V → List (List Nat)
  | none => []
  | some ⟨h, t⟩ => lvl h [t]
theorem lvl_len : ∀ {h : Nat} {now : List (Tr V h)}, (lvl h now).length = h + 1
  | 0, now => rfl
  | h + 1, now => by show (lvl h _).length + 1 = _; rw [lvl_len]
theorem lvl_last : ∀ {h : Nat} {now : List (Tr V h)}, ((lvl h now).getLast?.map List.sum).getD 0 = (now.flatMap (toL h)).length
  | 0, now => by
    show (now.map (szT 0)).sum = _
    rw [List.length_flatMap]; rfl
  | h + 1, now => by
    have ih := lvl_last (h := h) (now := now.flatMap fun t => t.2)
    have e : (lvl (h + 1) now).getLast? = (lvl h (now.flatMap fun t => t.2)).getLast? := by
      show (_ :: lvl h _).getLast? = _
      have : (lvl h (now.flatMap fun t => t.2)) ≠ [] := fun e => by have := lvl_len (h := h) (now := now.flatMap fun t => t.2); rw [e] at this; simp at this
      exact List.getLast?_cons_of_ne_nil this
    rw [e, ih, List.flatMap_assoc]; rfl
end
end Go.Bt

/- Whole trees as objects. -/
namespace Go.Gx
open Go.Bt Go.RowKit
section
variable {V : Type} {κ : Kd V} {w w' : World} {F G H W R R' : Nat → Prop} {base b t h p q n tT : Nat} {v root : Value} {k : Ky} {x : V} {o : TO V} {tr : Tr V h}
theorem TreeR.monoR : ∀ {h : Nat} {p : Nat} {tr : Tr V h} {W : Nat → Prop}, TreeR κ R w h p tr W → (∀ k, R k → R' k) → TreeR κ R' w h p tr W
  | 0, _, _, _, ⟨pv, D, L, e⟩, hs => ⟨pv, D, { L with kr := fun x hx k hk => hs k (L.kr x hx k hk) }, e⟩
  | _ + 1, _, _, _, ⟨kv, cv, K, P, G, N, Ks, e⟩, hs => ⟨kv, cv, K, P, G, { N with kr := fun x hx k hk => hs k (N.kr x hx k hk) }, Ks.imp fun _ _ _ q _ => TreeR.monoR q hs, e⟩
theorem TreeR.ltR : ∀ {h : Nat} {p : Nat} {tr : Tr V h} {W : Nat → Prop}, TreeR κ R w h p tr W → TreeR κ (fun j => R j ∧ j < w.heap.size) w h p tr W
  | 0, _, _, _, ⟨pv, D, L, e⟩ => ⟨pv, D, { L with kr := fun x hx k hk => ⟨L.kr x hx k hk, ((L.ks x hx).lt k hk).2⟩ }, e⟩
  | _ + 1, _, _, _, ⟨kv, cv, K, P, G, N, Ks, e⟩ => ⟨kv, cv, K, P, G, { N with kr := fun x hx k hk => ⟨N.kr x hx k hk, ((N.ks x hx).lt k hk).2⟩ }, Ks.imp fun _ _ _ q _ => TreeR.ltR q, e⟩
/-- A tree that has a root. -/
def TreeO (κ : Kd V) (R : Nat → Prop) (w : World) (o : TO V) (q : Nat) (W : Nat → Prop) : Prop := match o with | none => False | some ⟨h, t⟩ => TreeR κ R w h q t W
theorem TreeO.lt (T : TreeO κ R w o q W) : ∀ k, W k → 0 ≤ k ∧ k < w.heap.size := by
  match o, T with
  | some ⟨h, t⟩, T => exact (show TreeR κ R w h q t W from T).lt
theorem TreeO.keepG (T : TreeO κ R w o q W) (E : Gr w w' H) (hd : Dj W H) (hn : NoK w H) : TreeO κ R w' o q W := by
  match o, T with
  | some ⟨h, t⟩, T => exact TreeR.keepG (show TreeR κ R w h q t W from T) E hd hn
theorem TreeO.monoR (T : TreeO κ R w o q W) (hs : ∀ k, R k → R' k) : TreeO κ R' w o q W := by
  match o, T with
  | some ⟨h, t⟩, T => exact TreeR.monoR (show TreeR κ R w h q t W from T) hs
def TopR (κ : Kd V) (tT base : Nat) (w : World) (p : Nat) (o : TO V) (F : Nat → Prop) : Prop :=
  F p ∧ (∀ k, F k → base ≤ k ∧ k < w.heap.size) ∧ OkO o ∧ ∃ root, Bx w p tT [root] ∧ (o = none ∧ root = .pointer none ∨ ∃ q R W, root = ptr q 0 ∧ TreeO κ R w o q W ∧ (∀ k, W k → F k) ∧ ∀ k, R k → F k)
theorem TopR.lt (T : TopR κ tT base w p o F) : ∀ k, F k → base ≤ k ∧ k < w.heap.size := T.2.1
theorem TopR.keepG (T : TopR κ tT base w p o F) (E : Gr w w' H) (hd : Dj F H) : TopR κ tT base w' p o F := by
  obtain ⟨h1, h2, h3, root, hB, hr⟩ := T
  refine ⟨h1, fun k hk => ⟨(h2 k hk).1, Nat.lt_of_lt_of_le (h2 k hk).2 E.size⟩, h3, root, hB.keepG E (hd p h1), ?_⟩
  rcases hr with hr | ⟨q, R, W, e, hT, hW, hR⟩
  · exact .inl hr
  · refine .inr ⟨q, R, W, e, ?_, hW, hR⟩
    match o, hT with
    | some ⟨h, t⟩, hT => exact TreeR.keepR hT E (fun k hk => hd k (hW k hk)) (fun k hk => hd k (hR k hk))
/-- The tree behind a put: all that is new is its own. -/
theorem TopR.after {o2 : TO V} (T : TopR κ tT base w p o F) (hb : base ≤ w.heap.size) (E : w.heap.size ≤ w'.heap.size) (hO : OkO o2) (hB : Bx w' p tT [ptr q 0]) (hT : TreeO κ (fun j => F j ∨ w.heap.size ≤ j) w' o2 q W) (hW : ∀ j, W j → F j ∨ w.heap.size ≤ j) : ∃ F', TopR κ tT base w' p o2 F' ∧ NewF w.heap.size F F' := by
  refine ⟨fun j => F j ∨ (w.heap.size ≤ j ∧ j < w'.heap.size), ⟨.inl T.1, fun j hj => ?_, hO, _, hB, .inr ?_⟩, fun j hj => hj.imp id And.left⟩
  · rcases hj with hj | hj
    · have := T.2.1 j hj; omega
    · omega
  · match o2, hT with
    | some ⟨h, t⟩, hT =>
      have hT : TreeR κ (fun j => F j ∨ w.heap.size ≤ j) w' h q t W := hT
      refine ⟨q, _, W, rfl, hT.ltR, fun j hj => ?_, fun j hj => ?_⟩
      · exact (hW j hj).imp id fun h => ⟨h, hT.ty.lt j hj⟩
      · exact hj.1.imp id fun h => ⟨h, hj.2⟩
theorem TopR.gone (T : TopR κ tT base w p o F) (hb : base ≤ w.heap.size) (E : w.heap.size ≤ w'.heap.size) (hB : Bx w' p tT [.pointer none]) : ∃ F', TopR κ tT base w' p none F' ∧ NewF w.heap.size F F' :=
  ⟨F, ⟨T.1, fun j hj => by have := T.2.1 j hj; omega, trivial, _, hB, .inl ⟨rfl, rfl⟩⟩, NewF.refl _ _⟩
end
end Go.Gx

/- Walks, written by a program: what each function of the translation hands back. -/
namespace Go.Proofs.Ytcpfdfejojghbaa
open Go.Gx Go.RowKit
attribute [local irreducible] wpList wpStill Code.wp Calls
open Go.Bt
theorem newI {w : World} : Ret Try.prog 22 #[] w (fun v' w' => Below w.heap.size w w' ∧ ∃ p, v' = ptr p 0 ∧ TopR kI 71 w.heap.size w' p none (fun j => j = p)) := by
 have hb := Below.refl w.heap.size w
 refine enter (N := 3) Try.func22 rfl rfl (by simp) fun a0 hN hd hA => ?_
 clear hA
 refine seq_any fun K2665 hK2665 => ?_
 refine one_reg ?_
 refine op_assign rfl ?_
 refine reg_nil ?_
 refine hK2665 _ _ ?_
 refine seq_any fun K2666 hK2666 => ?_
 refine one_reg ?_
 refine op_build (pv := []) (v := (Value.agg #[(Value.pointer none)])) trivial (by kernel_rfl) ?_
 refine op_box (cs := [(Value.pointer none)]) (ev_hit hN rfl) rfl ?_
 intro w2667 b2668 lo_b2668 hi_b2668 hB2670 E2669
 have z_w2667 := E2669.size
 have hb := below_step0 hb E2669 hb.size
 refine op_assign (ev_hit hN rfl) ?_
 refine reg_nil ?_
 refine hK2666 _ _ ?_
 refine wp_ret ?_
 refine ret1 rfl hd (ev_hit hN rfl) ⟨_, rfl, ?_⟩
 -- path
 exact ⟨hb, b2668, rfl, rfl, fun j hj => ⟨by rw [hj]; omega, by rw [hj]; exact hB2670.lt⟩, trivial, _, hB2670, .inl ⟨rfl, rfl⟩⟩

theorem putT0I {k : List UInt8} {xv : Value} {x : Int} {F : Nat → Prop} {p : Nat} {R : Nat → Prop} {w : World} (hx : Bx w p 71 [.pointer none]) (hFp : F p) {L B : Nat} (hk : RdC w L B 1 xv k.length (k.map u8v)) (hB : B ≤ w.heap.size) (hap : ∀ j, F j → j < L ∨ B ≤ j) (hkn : k.length ≤ 1000000000) : Ret Try.prog 23 #[(ptr p 0), xv, (Value.int .i64 x)] w (fun v' w' => Gr w w' F ∧ v' = .bool (putT 0 k x (([] : List (Ky × (Int))) : Tr (Int) 0)).1 ∧ ∃ q2 W2, Bx w' p 71 [ptr q2 0] ∧ TreeO kI (fun j => R j ∨ w.heap.size ≤ j) w' (grown 0 (putT 0 k x (([] : List (Ky × (Int))) : Tr (Int) 0)).2.1 (putT 0 k x (([] : List (Ky × (Int))) : Tr (Int) 0)).2.2) q2 W2 ∧ ∀ j, W2 j → F j ∨ w.heap.size ≤ j) := by
 have hi_p := hx.lt
 have hb := Gr.refl w F
 refine enter (N := 51) Try.func23 rfl rfl (by simp) fun a0 hN hd hA => ?_
 have s0 : a0.tmps.getD 0 undef = (ptr p 0) := hA 0 (by simp)
 have s1 : a0.tmps.getD 1 undef = xv := hA 1 (by simp)
 have s2 : a0.tmps.getD 2 undef = (Value.int .i64 x) := hA 2 (by simp)
 clear hA
 refine seq_any fun K2683 hK2683 => ?_
 refine one_reg ?_
 refine op_assign rfl ?_
 refine reg_nil ?_
 refine hK2683 _ _ ?_
 refine seq_any fun K2684 hK2684 => ?_
 refine seq_any fun K2685 hK2685 => ?_
 refine one_reg ?_
 refine op_move (ev_base hN rfl s0) ?_
 refine op_peq_some ptrt45 (ev_hit hN rfl) rfl ?_
 refine reg_nil ?_
 refine hK2685 _ _ ?_
 refine wp_cond_false (ev_hit hN rfl) ?_
 refine wp_skip ?_
 refine hK2684 _ _ ?_
 refine seq_any fun K2686 hK2686 => ?_
 refine seq_any fun K2687 hK2687 => ?_
 refine one_reg ?_
 refine op_move (ev_base hN rfl s0) ?_
 refine op_nil (ev_hit hN rfl) ?_
 refine op_field fld71_0 (ev_hit hN rfl) ?_
 refine op_load1 (v := (Value.pointer none)) one69 (ev_hit hN rfl) (hx.cell rfl) ?_
 refine op_peq_none ptrt69 (ev_hit hN rfl) rfl ?_
 refine reg_nil ?_
 refine hK2687 _ _ ?_
 refine wp_cond_true (ev_hit hN rfl) ?_
 refine one_reg ?_
 refine op_move (ev_base hN rfl s0) ?_
 refine op_build (pv := []) (v := (Value.agg #[(Value.slice none 0 0), (Value.slice none 0 0), (Value.slice none 0 0)])) trivial (by kernel_rfl) ?_
 refine op_box (cs := [(Value.slice none 0 0), (Value.slice none 0 0), (Value.slice none 0 0)]) (ev_hit hN rfl) rfl ?_
 intro w2688 b2689 lo_b2689 hi_b2689 hB2691 E2690
 have z_w2688 := E2690.size
 have hx := hx.keep0 E2690
 have hk := hk.keep0 E2690
 have hb := hb.step0 E2690
 refine op_nil (ev_hit hN rfl) ?_
 refine op_field fld71_0 (ev_hit hN rfl) ?_
 have hx_old := hx
 refine op_store (vs := [(ptr b2689 0)]) (cs' := [(ptr b2689 0)]) size69 (ev_hit hN rfl) (ev_hit hN rfl) rfl rfl rfl hx (Nat.le_of_ble_eq_true rfl) rfl ?_
 intro w2694 hx E2695
 have z_w2694 := E2695.size
 have hk := hk.keep E2695 (fun k hk => by have e9 := Option.some.inj hk; subst e9; exact hap _ hFp)
 have hB2691 := hB2691.keep E2695 (fun hh => hB2691.ne hx_old (by decide) (Option.some.inj hh))
 have hb := hb.stepB E2695 hFp
 refine reg_nil ?_
 refine hK2686 _ _ ?_
 refine seq_any fun K2696 hK2696 => ?_
 have hT2697 : TreeR kI (fun j => R j ∨ w.heap.size ≤ j) w2694 0 b2689 (([] : List (Ky × (Int))) : Tr (Int) 0) (leafW b2689 nilV) := mkLeaf (D := []) hB2691 (Own.nil _ 0 _ _) (fun _ h => (by cases h)) (fun _ h => (by cases h)) rfl
 have hlo : ∀ j, leafW b2689 nilV j → w.heap.size ≤ j := leafW_fresh (e := 0) (sz := 0) (b := 0) (cs := []) (by omega) (Own.nil w2694 _ 0 0)
 refine reg_split (hd := [_, _, _, _, _, _, _, _, _]) (tl := _) 9 mixed (by kernel_rfl) rfl rfl ?_
 refine any_env (φ := phiV [(fun uz => uz = (ptr p 0)), (fun uz => uz = (ptr p 0)), (fun uz => uz = (ptr p 0)), (fun uz => uz = (ptr b2689 0)), (fun uz => uz = xv), (fun _ => True), (fun uz => uz = (Value.int .i64 x)), (fun _ => True), (fun _ => True)]) (G := fun w' => Bx w' p 71 [(ptr b2689 0)]) [5, 7, 8] (by kernel_rfl) (by kernel_rfl) (by kernel_rfl) (by kernel_rfl) hN (fun w1 w2 E h => h.keep0 E) hx (ObEs.cons ?_ (ObEs.cons ?_ (ObEs.cons ?_ (ObEs.cons ?_ (ObEs.cons ?_ (ObEs.pass rfl (ObEs.cons ?_ (ObEs.pass rfl (ObEs.pass rfl (ObEs.nil)))))))))) (by simp only [putsL_defers]) ?_
 ·
  intro eA aA wA hNA hGA hbsA hdpA
  have qA_0 := (hbsA 0 rfl).trans (sl_base hN rfl s0)
  refine op_move (ev_base hNA rfl qA_0) ?_
  exact obE_end rfl rfl rfl
 ·
  intro eA aA wA hNA hGA hbsA hdpA
  have qA_23 : Sl aA 23 (ptr p 0) := (hdpA 0 _ 23 (by kernel_rfl) rfl rfl).2 rfl
  refine op_nil (ev_base hNA rfl qA_23) ?_
  exact obE_end rfl rfl rfl
 ·
  intro eA aA wA hNA hGA hbsA hdpA
  have qA_24 : Sl aA 24 (ptr p 0) := (hdpA 1 _ 24 (by kernel_rfl) rfl rfl).2 rfl
  refine op_field fld71_0 (ev_base hNA rfl qA_24) ?_
  exact obE_end rfl rfl rfl
 ·
  intro eA aA wA hNA hGA hbsA hdpA
  have qA_25 : Sl aA 25 (ptr p 0) := (hdpA 2 _ 25 (by kernel_rfl) rfl rfl).2 rfl
  refine op_load1 (v := (ptr b2689 0)) one69 (ev_base hNA rfl qA_25) (hGA.cell rfl) ?_
  exact obE_end rfl rfl rfl
 ·
  intro eA aA wA hNA hGA hbsA hdpA
  have qA_1 := (hbsA 1 rfl).trans (sl_base hN rfl s1)
  refine op_move (ev_base hNA rfl qA_1) ?_
  exact obE_end rfl rfl rfl
 ·
  intro eA aA wA hNA hGA hbsA hdpA
  have qA_2 := (hbsA 2 rfl).trans (sl_base hN rfl s2)
  refine op_move (ev_base hNA rfl qA_2) ?_
  exact obE_end rfl rfl rfl
 ·
  intro w2698 E2698 _ a2698 hN2698 hbs2698 hdp2698 o_ ho_; obtain rfl := Option.some.inj ho_
  have z_w2698 := E2698.size
  have hk := hk.keep0 E2698
  have hx := hx.keep0 E2698
  have hT2697 := hT2697.keepG (Gr.of0 E2698 NoB) (fun _ _ h => h) (NoK.no _)
  have hb := hb.step0 E2698
  have q2698_27 : Sl a2698 27 xv := (hdp2698 4 _ 27 (by kernel_rfl) rfl rfl).2 rfl
  refine op_fn (vs := [xv]) ok41 ⟨(ev_base hN2698 rfl q2698_27), trivial⟩ (clB (hk.mono (Nat.zero_le _) (by omega)) (by omega)) ?_
  rintro v2699 w2700 ⟨E2701, hO2699⟩
  have dj2702 : Dj (leafW b2689 nilV) (Bl v2699) := Dj.fresh (fun k hk => (hT2697.lt k hk).2) (fun k hk => (hO2699.lt k hk).1)
  have E2701 := grown_of_below E2701
  have z_w2700 := E2701.size
  have hk := hk.keep0 E2701
  have hx := hx.keep0 E2701
  have hT2697 := hT2697.keepG (Gr.of0 E2701 NoB) (fun _ _ h => h) (NoK.no _)
  have hb := hb.step0 E2701
  have hO2699 := hO2699.mono (base' := w.heap.size) (by omega)
  skip
  refine ke_end rfl (by decide) rfl hx ?_
  intro w2703 E2703 _ a2703 hN2703 hbs2703 hdp2703 o_ ho_; obtain rfl := Option.some.inj ho_
  have z_w2703 := E2703.size
  have hk := hk.keep0 E2703
  have hx := hx.keep0 E2703
  have hT2697 := hT2697.keepG (Gr.of0 E2703 NoB) (fun _ _ h => h) (NoK.no _)
  have hO2699 := hO2699.keep0 E2703
  have hb := hb.step0 E2703
  have q2703_28 : Sl a2703 28 v2699 := (Option.some.inj ((hdp2703 5 _ 28 (by kernel_rfl) rfl rfl).1 0 rfl)).symm
  have q2703_29 : Sl a2703 29 (Value.int .i64 x) := (hdp2703 6 _ 29 (by kernel_rfl) rfl rfl).2 rfl
  refine op_build (pv := [(0, v2699), (1, (Value.int .i64 x))]) (v := (Value.agg #[v2699, (Value.int .i64 x)])) ⟨rfl, (ev_base hN2703 rfl q2703_28), ⟨rfl, (ev_base hN2703 rfl q2703_29), trivial⟩⟩ (by obtain ⟨_, _, _, rfl⟩ := hO2699.sl; kernel_rfl) ?_
  refine ke_end rfl (by decide) rfl hx ?_
  intro w2704 E2704 _ a2704 hN2704 hbs2704 hdp2704 o_ ho_; obtain rfl := Option.some.inj ho_
  have z_w2704 := E2704.size
  have hk := hk.keep0 E2704
  have hx := hx.keep0 E2704
  have hT2697 := hT2697.keepG (Gr.of0 E2704 NoB) (fun _ _ h => h) (NoK.no _)
  have hO2699 := hO2699.keep0 E2704
  have hb := hb.step0 E2704
  have q2704_26 : Sl a2704 26 (ptr b2689 0) := (hdp2704 3 _ 26 (by kernel_rfl) rfl rfl).2 rfl
  have q2704_30 : Sl a2704 30 (Value.agg #[v2699, (Value.int .i64 x)]) := (Option.some.inj ((hdp2704 7 _ 30 (by kernel_rfl) rfl rfl).1 1 rfl)).symm
  rcases Bool.eq_false_or_eq_true (((putT 0 k x (([] : List (Ky × (Int))) : Tr (Int) 0)).2.2.isSome)) with k31 | k31
  · -- 31T
   cases (show false = true from k31)
  · -- 31F
   refine op_fn (vs := [(ptr b2689 0), (Value.agg #[v2699, (Value.int .i64 x)])]) ok48 ⟨(ev_base hN2704 rfl q2704_26), ⟨(ev_base hN2704 rfl q2704_30), trivial⟩⟩ (putAllI 0 hT2697 (show Sorted ([] : List Ky) from List.Pairwise.nil) (Nat.zero_le 6) (hO2699.mono (Nat.zero_le _)) (fun j hj => .inr (hO2699.lt j hj).1)) ?_
   rintro _ w2706 ⟨E2707, u2705, m2705, rfl, ho2705⟩
   have bd2708 := hx.lt
   have bd2709 := hO2699.lt
   have dj2710 := (hT2697.notBx hx (by decide) (by decide) (by decide) (by decide))
   have dj2711 := dj2702.symm
   obtain ⟨hr2705, rfl, rfl, W1_2705, hT2705, hN1_2705⟩ := outR_none k31 ho2705
   have hT2697_old := hT2697
   have z_w2706 := E2707.size
   have hx := hx.keepG E2707 dj2710
   have hO2699 := hO2699.keepG E2707 dj2711
   have hb := hb.stepF E2707 (fun k hk h => absurd (hlo k h) (by omega))
   have dj2712 : ¬ W1_2705 p := ne_stepF hN1_2705 bd2708 dj2710
   have dj2713 : Dj (Bl v2699) W1_2705 := Dj.stepF hN1_2705 (fun k hk => (bd2709 k hk).2) dj2711
   have hin2714 : ∀ j, W1_2705 j → F j ∨ w.heap.size ≤ j := fun j hj => (hN1_2705 j hj).elim (fun h => .inr (hlo j h)) (fun h => .inr (by omega))
   refine ke_end rfl (by decide) rfl hx ?_
   intro w2715 E2715 a2715 hN2715 hd2715 hbs2715 hph2715
   have hd2715 := hd2715.trans ((by simp only [putsL_defers] : _ = _).trans hd)
   have z_w2715 := E2715.size
   have hx := hx.keep0 E2715
   have hO2699 := hO2699.keep0 E2715
   have hT2705 := hT2705.keepG (Gr.of0 E2715 NoB) (fun _ _ h => h) (NoK.no _)
   have hb := hb.step0 E2715
   have s2715_0 := (hbs2715 0 rfl).trans (sl_base hN rfl s0)
   have s2715_6 := (hbs2715 6 rfl).trans (sl_hit hN rfl)
   have s2715_31 : Sl a2715 31 (Value.tuple #[(Value.bool (putT 0 k x (([] : List (Ky × (Int))) : Tr (Int) 0)).1), (Value.slice none 0 0), (Value.pointer none)]) := (Option.some.inj ((hph2715 8 _ 31 rfl rfl).1 2 rfl)).symm
   refine split_end ?_
   refine from_still (m := 16) 7 (hd := [_, _, _, _, _, _, _]) (by kernel_rfl) rfl rfl ?_
   refine st_step rfl (fun _ h9 => op_move (ev_base hN2715 rfl s2715_31) h9) ?_
   refine st_step rfl (fun _ h9 => op_extract (ev_hit hN2715 rfl) rfl h9) ?_
   refine st_step rfl (fun _ h9 => op_extract (ev_hit hN2715 rfl) rfl h9) ?_
   refine st_step rfl (fun _ h9 => op_extract (ev_hit hN2715 rfl) rfl h9) ?_
   refine st_step rfl (fun _ h9 => op_assign (ev_hit hN2715 rfl) h9) ?_
   refine st_step rfl (fun _ h9 => op_assign (ev_hit hN2715 rfl) h9) ?_
   refine st_step rfl (fun _ h9 => op_assign (ev_hit hN2715 rfl) h9) ?_
   refine st_nil ?_
   refine from_end ?_ rfl
   refine hK2696 _ _ ?_
   refine seq_any fun K2716 hK2716 => ?_
   refine seq_any fun K2717 hK2717 => ?_
   refine one_reg ?_
   refine op_move (ev_hit hN2715 rfl) ?_
   refine op_pne_none ptrt69 (ev_hit hN2715 rfl) rfl ?_
   refine reg_nil ?_
   refine hK2717 _ _ ?_
   refine wp_cond_false (ev_hit hN2715 rfl) ?_
   refine wp_skip ?_
   refine hK2716 _ _ ?_
   refine seq_any fun K2718 hK2718 => ?_
   refine one_reg ?_
   refine op_move (ev_hit hN2715 rfl) ?_
   refine op_assign (ev_hit hN2715 rfl) ?_
   refine reg_nil ?_
   refine hK2718 _ _ ?_
   refine wp_ret ?_
   refine ret1 rfl hd2715 (ev_hit hN2715 rfl) ⟨_, rfl, ?_⟩
   -- path 31F
   exact ⟨hb, rfl, b2689, W1_2705, hx, (by rw [hr2705]; exact hT2705), hin2714⟩

theorem putT1I {k : List UInt8} {xv : Value} {x : Int} {F : Nat → Prop} {p : Nat} {h q : Nat} {t : Tr (Int) h} {W : Nat → Prop} {R : Nat → Prop} {w : World} (hx : Bx w p 71 [ptr q 0]) (hFp : F p) (hT : TreeR kI R w h q t W) (hFW : ∀ j, W j → F j) (hO : Ok h t) (h6 : szT h t ≤ 6) {L B : Nat} (hk : RdC w L B 1 xv k.length (k.map u8v)) (hB : B ≤ w.heap.size) (hap : ∀ j, F j → j < L ∨ B ≤ j) (hkn : k.length ≤ 1000000000) : Ret Try.prog 23 #[(ptr p 0), xv, (Value.int .i64 x)] w (fun v' w' => Gr w w' F ∧ v' = .bool (putT h k x t).1 ∧ ∃ q2 W2, Bx w' p 71 [ptr q2 0] ∧ TreeO kI (fun j => R j ∨ w.heap.size ≤ j) w' (grown h (putT h k x t).2.1 (putT h k x t).2.2) q2 W2 ∧ ∀ j, W2 j → F j ∨ w.heap.size ≤ j) := by
 have hi_p := hx.lt
 have hT1 : TreeR kI (fun j => R j ∨ w.heap.size ≤ j) w h q t W := hT.monoR (fun j h => .inl h)
 have hb := Gr.refl w F
 refine enter (N := 51) Try.func23 rfl rfl (by simp) fun a0 hN hd hA => ?_
 have s0 : a0.tmps.getD 0 undef = (ptr p 0) := hA 0 (by simp)
 have s1 : a0.tmps.getD 1 undef = xv := hA 1 (by simp)
 have s2 : a0.tmps.getD 2 undef = (Value.int .i64 x) := hA 2 (by simp)
 clear hA
 refine seq_any fun K2719 hK2719 => ?_
 refine one_reg ?_
 refine op_assign rfl ?_
 refine reg_nil ?_
 refine hK2719 _ _ ?_
 refine seq_any fun K2720 hK2720 => ?_
 refine seq_any fun K2721 hK2721 => ?_
 refine one_reg ?_
 refine op_move (ev_base hN rfl s0) ?_
 refine op_peq_some ptrt45 (ev_hit hN rfl) rfl ?_
 refine reg_nil ?_
 refine hK2721 _ _ ?_
 refine wp_cond_false (ev_hit hN rfl) ?_
 refine wp_skip ?_
 refine hK2720 _ _ ?_
 refine seq_any fun K2722 hK2722 => ?_
 refine seq_any fun K2723 hK2723 => ?_
 refine one_reg ?_
 refine op_move (ev_base hN rfl s0) ?_
 refine op_nil (ev_hit hN rfl) ?_
 refine op_field fld71_0 (ev_hit hN rfl) ?_
 refine op_load1 (v := (ptr q 0)) one69 (ev_hit hN rfl) (hx.cell rfl) ?_
 refine op_peq_some ptrt69 (ev_hit hN rfl) rfl ?_
 refine reg_nil ?_
 refine hK2723 _ _ ?_
 refine wp_cond_false (ev_hit hN rfl) ?_
 refine wp_skip ?_
 refine hK2722 _ _ ?_
 refine seq_any fun K2724 hK2724 => ?_
 refine reg_split (hd := [_, _, _, _, _, _, _, _, _]) (tl := _) 9 mixed (by kernel_rfl) rfl rfl ?_
 refine any_env (φ := phiV [(fun uz => uz = (ptr p 0)), (fun uz => uz = (ptr p 0)), (fun uz => uz = (ptr p 0)), (fun uz => uz = (ptr q 0)), (fun uz => uz = xv), (fun _ => True), (fun uz => uz = (Value.int .i64 x)), (fun _ => True), (fun _ => True)]) (G := fun w' => Bx w' p 71 [(ptr q 0)]) [5, 7, 8] (by kernel_rfl) (by kernel_rfl) (by kernel_rfl) (by kernel_rfl) hN (fun w1 w2 E h => h.keep0 E) hx (ObEs.cons ?_ (ObEs.cons ?_ (ObEs.cons ?_ (ObEs.cons ?_ (ObEs.cons ?_ (ObEs.pass rfl (ObEs.cons ?_ (ObEs.pass rfl (ObEs.pass rfl (ObEs.nil)))))))))) (by simp only [putsL_defers]) ?_
 ·
  intro eA aA wA hNA hGA hbsA hdpA
  have qA_0 := (hbsA 0 rfl).trans (sl_base hN rfl s0)
  refine op_move (ev_base hNA rfl qA_0) ?_
  exact obE_end rfl rfl rfl
 ·
  intro eA aA wA hNA hGA hbsA hdpA
  have qA_23 : Sl aA 23 (ptr p 0) := (hdpA 0 _ 23 (by kernel_rfl) rfl rfl).2 rfl
  refine op_nil (ev_base hNA rfl qA_23) ?_
  exact obE_end rfl rfl rfl
 ·
  intro eA aA wA hNA hGA hbsA hdpA
  have qA_24 : Sl aA 24 (ptr p 0) := (hdpA 1 _ 24 (by kernel_rfl) rfl rfl).2 rfl
  refine op_field fld71_0 (ev_base hNA rfl qA_24) ?_
  exact obE_end rfl rfl rfl
 ·
  intro eA aA wA hNA hGA hbsA hdpA
  have qA_25 : Sl aA 25 (ptr p 0) := (hdpA 2 _ 25 (by kernel_rfl) rfl rfl).2 rfl
  refine op_load1 (v := (ptr q 0)) one69 (ev_base hNA rfl qA_25) (hGA.cell rfl) ?_
  exact obE_end rfl rfl rfl
 ·
  intro eA aA wA hNA hGA hbsA hdpA
  have qA_1 := (hbsA 1 rfl).trans (sl_base hN rfl s1)
  refine op_move (ev_base hNA rfl qA_1) ?_
  exact obE_end rfl rfl rfl
 ·
  intro eA aA wA hNA hGA hbsA hdpA
  have qA_2 := (hbsA 2 rfl).trans (sl_base hN rfl s2)
  refine op_move (ev_base hNA rfl qA_2) ?_
  exact obE_end rfl rfl rfl
 ·
  intro w2725 E2725 _ a2725 hN2725 hbs2725 hdp2725 o_ ho_; obtain rfl := Option.some.inj ho_
  have z_w2725 := E2725.size
  have hx := hx.keep0 E2725
  have hk := hk.keep0 E2725
  have hT1 := hT1.keepG (Gr.of0 E2725 NoB) (fun _ _ h => h) (NoK.no _)
  have hb := hb.step0 E2725
  have q2725_27 : Sl a2725 27 xv := (hdp2725 4 _ 27 (by kernel_rfl) rfl rfl).2 rfl
  refine op_fn (vs := [xv]) ok41 ⟨(ev_base hN2725 rfl q2725_27), trivial⟩ (clB (hk.mono (Nat.zero_le _) (by omega)) (by omega)) ?_
  rintro v2726 w2727 ⟨E2728, hO2726⟩
  have dj2729 : Dj W (Bl v2726) := Dj.fresh (fun k hk => (hT1.lt k hk).2) (fun k hk => (hO2726.lt k hk).1)
  have E2728 := grown_of_below E2728
  have z_w2727 := E2728.size
  have hx := hx.keep0 E2728
  have hk := hk.keep0 E2728
  have hT1 := hT1.keepG (Gr.of0 E2728 NoB) (fun _ _ h => h) (NoK.no _)
  have hb := hb.step0 E2728
  have hO2726 := hO2726.mono (base' := w.heap.size) (by omega)
  skip
  refine ke_end rfl (by decide) rfl hx ?_
  intro w2730 E2730 _ a2730 hN2730 hbs2730 hdp2730 o_ ho_; obtain rfl := Option.some.inj ho_
  have z_w2730 := E2730.size
  have hx := hx.keep0 E2730
  have hk := hk.keep0 E2730
  have hT1 := hT1.keepG (Gr.of0 E2730 NoB) (fun _ _ h => h) (NoK.no _)
  have hO2726 := hO2726.keep0 E2730
  have hb := hb.step0 E2730
  have q2730_28 : Sl a2730 28 v2726 := (Option.some.inj ((hdp2730 5 _ 28 (by kernel_rfl) rfl rfl).1 0 rfl)).symm
  have q2730_29 : Sl a2730 29 (Value.int .i64 x) := (hdp2730 6 _ 29 (by kernel_rfl) rfl rfl).2 rfl
  refine op_build (pv := [(0, v2726), (1, (Value.int .i64 x))]) (v := (Value.agg #[v2726, (Value.int .i64 x)])) ⟨rfl, (ev_base hN2730 rfl q2730_28), ⟨rfl, (ev_base hN2730 rfl q2730_29), trivial⟩⟩ (by obtain ⟨_, _, _, rfl⟩ := hO2726.sl; kernel_rfl) ?_
  refine ke_end rfl (by decide) rfl hx ?_
  intro w2731 E2731 _ a2731 hN2731 hbs2731 hdp2731 o_ ho_; obtain rfl := Option.some.inj ho_
  have z_w2731 := E2731.size
  have hx := hx.keep0 E2731
  have hk := hk.keep0 E2731
  have hT1 := hT1.keepG (Gr.of0 E2731 NoB) (fun _ _ h => h) (NoK.no _)
  have hO2726 := hO2726.keep0 E2731
  have hb := hb.step0 E2731
  have q2731_26 : Sl a2731 26 (ptr q 0) := (hdp2731 3 _ 26 (by kernel_rfl) rfl rfl).2 rfl
  have q2731_30 : Sl a2731 30 (Value.agg #[v2726, (Value.int .i64 x)]) := (Option.some.inj ((hdp2731 7 _ 30 (by kernel_rfl) rfl rfl).1 1 rfl)).symm
  rcases Bool.eq_false_or_eq_true (((putT h k x t).2.2.isSome)) with k31 | k31
  · -- 31T
   refine op_fn (vs := [(ptr q 0), (Value.agg #[v2726, (Value.int .i64 x)])]) ok48 ⟨(ev_base hN2731 rfl q2731_26), ⟨(ev_base hN2731 rfl q2731_30), trivial⟩⟩ (putAllI h hT1 hO h6 (hO2726.mono (Nat.zero_le _)) (fun j hj => .inr (hO2726.lt j hj).1)) ?_
   rintro _ w2733 ⟨E2734, u2732, m2732, rfl, ho2732⟩
   have bd2735 := hx.lt
   have bd2736 := hO2726.lt
   have dj2737 := (hT1.notBx hx (by decide) (by decide) (by decide) (by decide))
   have dj2738 := dj2729.symm
   obtain ⟨y2732, t2_2732, q2732, W1_2732, W2_2732, hr2732, rfl, hu2732, hur2732, hT2732, hT2_2732, hN1_2732, hN2_2732, hd2732⟩ := outR_some k31 ho2732
   have hT1_old := hT1
   have z_w2733 := E2734.size
   have hx := hx.keepG E2734 dj2737
   have hO2726 := hO2726.keepG E2734 dj2738
   have hb := hb.stepF E2734 (fun k _ h => hFW k h)
   have dj2739 : ¬ W1_2732 p := ne_stepF hN1_2732 bd2735 dj2737
   have dj2740 : Dj (Bl v2726) W1_2732 := Dj.stepF hN1_2732 (fun k hk => (bd2736 k hk).2) dj2738
   have hin2741 : ∀ j, W1_2732 j → F j ∨ w.heap.size ≤ j := fun j hj => (hN1_2732 j hj).elim (fun h => .inl (hFW j h)) (fun h => .inr (by omega))
   have dj2742 : ¬ W2_2732 p := ne_stepF hN2_2732 bd2735 dj2737
   have dj2743 : Dj (Bl v2726) W2_2732 := Dj.stepF hN2_2732 (fun k hk => (bd2736 k hk).2) dj2738
   have hin2744 : ∀ j, W2_2732 j → F j ∨ w.heap.size ≤ j := fun j hj => (hN2_2732 j hj).elim (fun h => .inl (hFW j h)) (fun h => .inr (by omega))
   refine ke_end rfl (by decide) rfl hx ?_
   intro w2745 E2745 a2745 hN2745 hd2745 hbs2745 hph2745
   have hd2745 := hd2745.trans ((by simp only [putsL_defers] : _ = _).trans hd)
   have z_w2745 := E2745.size
   have hx := hx.keep0 E2745
   have hO2726 := hO2726.keep0 E2745
   have hT2732 := hT2732.keepG (Gr.of0 E2745 NoB) (fun _ _ h => h) (NoK.no _)
   have hT2_2732 := hT2_2732.keepG (Gr.of0 E2745 NoB) (fun _ _ h => h) (NoK.no _)
   have hu2732 := hu2732.keep0 E2745
   have hb := hb.step0 E2745
   have s2745_0 := (hbs2745 0 rfl).trans (sl_base hN rfl s0)
   have s2745_6 := (hbs2745 6 rfl).trans (sl_hit hN rfl)
   have s2745_31 : Sl a2745 31 (Value.tuple #[(Value.bool (putT h k x t).1), u2732, (ptr q2732 0)]) := (Option.some.inj ((hph2745 8 _ 31 rfl rfl).1 2 rfl)).symm
   refine split_end ?_
   refine from_still (m := 16) 7 (hd := [_, _, _, _, _, _, _]) (by kernel_rfl) rfl rfl ?_
   refine st_step rfl (fun _ h9 => op_move (ev_base hN2745 rfl s2745_31) h9) ?_
   refine st_step rfl (fun _ h9 => op_extract (ev_hit hN2745 rfl) rfl h9) ?_
   refine st_step rfl (fun _ h9 => op_extract (ev_hit hN2745 rfl) rfl h9) ?_
   refine st_step rfl (fun _ h9 => op_extract (ev_hit hN2745 rfl) rfl h9) ?_
   refine st_step rfl (fun _ h9 => op_assign (ev_hit hN2745 rfl) h9) ?_
   refine st_step rfl (fun _ h9 => op_assign (ev_hit hN2745 rfl) h9) ?_
   refine st_step rfl (fun _ h9 => op_assign (ev_hit hN2745 rfl) h9) ?_
   refine st_nil ?_
   refine from_end ?_ rfl
   refine hK2724 _ _ ?_
   refine seq_any fun K2746 hK2746 => ?_
   refine seq_any fun K2747 hK2747 => ?_
   refine one_reg ?_
   refine op_move (ev_hit hN2745 rfl) ?_
   refine op_pne_some ptrt69 (ev_hit hN2745 rfl) rfl ?_
   refine reg_nil ?_
   refine hK2747 _ _ ?_
   refine wp_cond_true (ev_hit hN2745 rfl) ?_
   refine one_reg ?_
   refine op_move (ev_base hN2745 rfl s2745_0) ?_
   refine op_move (ev_hit hN2745 rfl) ?_
   refine op_bslice (e := 27) (pv := [(0, u2732)]) (cs := [u2732]) ⟨rfl, (ev_hit hN2745 rfl), trivial⟩ (by obtain ⟨_, _, _, rfl⟩ := hu2732.sl; kernel_rfl) ?_
   intro w2748 b2749 lo_b2749 hi_b2749 hB2751 E2750
   have dj2752 : ¬ W1_2732 b2749 := fun hf => by have := (hT2732.lt _ hf).2; omega
   have dj2753 : ¬ W2_2732 b2749 := fun hf => by have := (hT2_2732.lt _ hf).2; omega
   have z_w2748 := E2750.size
   have hx := hx.keep0 E2750
   have hO2726 := hO2726.keep0 E2750
   have hT2732 := hT2732.keepG (Gr.of0 E2750 NoB) (fun _ _ h => h) (NoK.no _)
   have hT2_2732 := hT2_2732.keepG (Gr.of0 E2750 NoB) (fun _ _ h => h) (NoK.no _)
   have hu2732 := hu2732.keep0 E2750
   have hb := hb.step0 E2750
   refine op_move (ev_base hN2745 rfl s2745_0) ?_
   refine op_nil (ev_hit hN2745 rfl) ?_
   refine op_field fld71_0 (ev_hit hN2745 rfl) ?_
   refine op_load1 (v := (ptr q 0)) one69 (ev_hit hN2745 rfl) (hx.cell rfl) ?_
   refine op_move (ev_hit hN2745 rfl) ?_
   refine op_bslice (e := 69) (pv := [(0, (ptr q 0)), (1, (ptr q2732 0))]) (cs := [(ptr q 0), (ptr q2732 0)]) ⟨rfl, (ev_hit hN2745 rfl), ⟨rfl, (ev_hit hN2745 rfl), trivial⟩⟩ (by kernel_rfl) ?_
   intro w2754 b2755 lo_b2755 hi_b2755 hB2757 E2756
   have dj2758 : ¬ W1_2732 b2755 := fun hf => by have := (hT2732.lt _ hf).2; omega
   have dj2759 : ¬ W2_2732 b2755 := fun hf => by have := (hT2_2732.lt _ hf).2; omega
   have z_w2754 := E2756.size
   have hx := hx.keep0 E2756
   have hO2726 := hO2726.keep0 E2756
   have hT2732 := hT2732.keepG (Gr.of0 E2756 NoB) (fun _ _ h => h) (NoK.no _)
   have hT2_2732 := hT2_2732.keepG (Gr.of0 E2756 NoB) (fun _ _ h => h) (NoK.no _)
   have hu2732 := hu2732.keep0 E2756
   have hB2751 := hB2751.keep0 E2756
   have hb := hb.step0 E2756
   refine op_build (pv := [(1, (Value.slice (some ⟨b2749, 0, none⟩) 1 1)), (2, (Value.slice (some ⟨b2755, 0, none⟩) 2 2))]) (v := (Value.agg #[(Value.slice none 0 0), (Value.slice (some ⟨b2749, 0, none⟩) 1 1), (Value.slice (some ⟨b2755, 0, none⟩) 2 2)])) ⟨rfl, (ev_hit hN2745 rfl), ⟨rfl, (ev_hit hN2745 rfl), trivial⟩⟩ (by kernel_rfl) ?_
   refine op_box (cs := [(Value.slice none 0 0), (Value.slice (some ⟨b2749, 0, none⟩) 1 1), (Value.slice (some ⟨b2755, 0, none⟩) 2 2)]) (ev_hit hN2745 rfl) rfl ?_
   intro w2760 b2761 lo_b2761 hi_b2761 hB2763 E2762
   have dj2764 : ¬ W1_2732 b2761 := fun hf => by have := (hT2732.lt _ hf).2; omega
   have dj2765 : ¬ W2_2732 b2761 := fun hf => by have := (hT2_2732.lt _ hf).2; omega
   have z_w2760 := E2762.size
   have hx := hx.keep0 E2762
   have hO2726 := hO2726.keep0 E2762
   have hT2732 := hT2732.keepG (Gr.of0 E2762 NoB) (fun _ _ h => h) (NoK.no _)
   have hT2_2732 := hT2_2732.keepG (Gr.of0 E2762 NoB) (fun _ _ h => h) (NoK.no _)
   have hu2732 := hu2732.keep0 E2762
   have hB2751 := hB2751.keep0 E2762
   have hB2757 := hB2757.keep0 E2762
   have hb := hb.step0 E2762
   refine op_nil (ev_hit hN2745 rfl) ?_
   refine op_field fld71_0 (ev_hit hN2745 rfl) ?_
   have hx_old := hx
   refine op_store (vs := [(ptr b2761 0)]) (cs' := [(ptr b2761 0)]) size69 (ev_hit hN2745 rfl) (ev_hit hN2745 rfl) rfl rfl rfl hx (Nat.le_of_ble_eq_true rfl) rfl ?_
   intro w2768 hx E2769
   have z_w2768 := E2769.size
   have hO2726 := hO2726.keepX hx_old E2769 (by decide)
   have hT2732 := hT2732.keepG (Gr.of E2769) (Dj.one dj2739) (NoK.ofBx hx_old (by decide))
   have hT2_2732 := hT2_2732.keepG (Gr.of E2769) (Dj.one dj2742) (NoK.ofBx hx_old (by decide))
   have hu2732 := hu2732.keepX hx_old E2769 (by decide)
   have hB2751 := hB2751.keep E2769 (fun hh => hB2751.ne hx_old (by decide) (Option.some.inj hh))
   have hB2757 := hB2757.keep E2769 (fun hh => hB2757.ne hx_old (by decide) (Option.some.inj hh))
   have hB2763 := hB2763.keep E2769 (fun hh => hB2763.ne hx_old (by decide) (Option.some.inj hh))
   have hb := hb.stepB E2769 hFp
   refine reg_nil ?_
   refine hK2746 _ _ ?_
   refine seq_any fun K2770 hK2770 => ?_
   refine one_reg ?_
   refine op_move (ev_hit hN2745 rfl) ?_
   refine op_assign (ev_hit hN2745 rfl) ?_
   refine reg_nil ?_
   refine hK2770 _ _ ?_
   refine wp_ret ?_
   refine ret1 rfl hd2745 (ev_hit hN2745 rfl) ⟨_, rfl, ?_⟩
   -- path 31T
   exact ⟨hb, rfl, b2761, _, hx, (by rw [hr2732]; exact (mkNode (κ := kI) (K := [(u2732, y2732)]) (P := [q, q2732]) (ts := [(putT h k x t).2.1, t2_2732]) hB2763 (Own.ofBx (base := 0) (sz := 1) (n := 1) hB2751 rfl (by decide) (Nat.zero_le _)) (Own.ofBx (base := 0) (sz := 1) (n := 2) hB2757 rfl (by decide) (Nat.zero_le _)) (fun x hx => by rw [List.mem_singleton.1 hx]; exact hu2732) (fun x hx => by rw [List.mem_singleton.1 hx]; exact hur2732) (Kids.ins (i := 0) (Kids.ins (i := 0) (Kids.nil (TreeR kI (fun j => R j ∨ w.heap.size ≤ j) w2768 h)) (Nat.zero_le _) hT2_2732 (fun _ _ h => h)) (Nat.zero_le _) hT2732 (fun k h1 h2 => h2.elim (hd2732 k h1) (fun h => h))) (fun h9 => h9.elim dj2764 (fun h8 => h8.elim dj2765 (fun h => h))) (fun j hj h9 => h9.elim ((Dj.one dj2752).symm j hj) (fun h8 => h8.elim ((Dj.one dj2753).symm j hj) (fun h => h))) (fun j hj h9 => h9.elim ((Dj.one dj2758).symm j hj) (fun h8 => h8.elim ((Dj.one dj2759).symm j hj) (fun h => h))))), fun j hj => by
       rcases hj with rfl | hj | hj | hj | hj | hj
       · exact .inr (by omega)
       · exact .inr (by have e9 : b2749 = j := Option.some.inj hj; omega)
       · exact .inr (by have e9 : b2755 = j := Option.some.inj hj; omega)
       · exact hin2741 j hj
       · exact hin2744 j hj
       · exact hj.elim⟩
  · -- 31F
   refine op_fn (vs := [(ptr q 0), (Value.agg #[v2726, (Value.int .i64 x)])]) ok48 ⟨(ev_base hN2731 rfl q2731_26), ⟨(ev_base hN2731 rfl q2731_30), trivial⟩⟩ (putAllI h hT1 hO h6 (hO2726.mono (Nat.zero_le _)) (fun j hj => .inr (hO2726.lt j hj).1)) ?_
   rintro _ w2772 ⟨E2773, u2771, m2771, rfl, ho2771⟩
   have bd2774 := hx.lt
   have bd2775 := hO2726.lt
   have dj2776 := (hT1.notBx hx (by decide) (by decide) (by decide) (by decide))
   have dj2777 := dj2729.symm
   obtain ⟨hr2771, rfl, rfl, W1_2771, hT2771, hN1_2771⟩ := outR_none k31 ho2771
   have hT1_old := hT1
   have z_w2772 := E2773.size
   have hx := hx.keepG E2773 dj2776
   have hO2726 := hO2726.keepG E2773 dj2777
   have hb := hb.stepF E2773 (fun k _ h => hFW k h)
   have dj2778 : ¬ W1_2771 p := ne_stepF hN1_2771 bd2774 dj2776
   have dj2779 : Dj (Bl v2726) W1_2771 := Dj.stepF hN1_2771 (fun k hk => (bd2775 k hk).2) dj2777
   have hin2780 : ∀ j, W1_2771 j → F j ∨ w.heap.size ≤ j := fun j hj => (hN1_2771 j hj).elim (fun h => .inl (hFW j h)) (fun h => .inr (by omega))
   refine ke_end rfl (by decide) rfl hx ?_
   intro w2781 E2781 a2781 hN2781 hd2781 hbs2781 hph2781
   have hd2781 := hd2781.trans ((by simp only [putsL_defers] : _ = _).trans hd)
   have z_w2781 := E2781.size
   have hx := hx.keep0 E2781
   have hO2726 := hO2726.keep0 E2781
   have hT2771 := hT2771.keepG (Gr.of0 E2781 NoB) (fun _ _ h => h) (NoK.no _)
   have hb := hb.step0 E2781
   have s2781_0 := (hbs2781 0 rfl).trans (sl_base hN rfl s0)
   have s2781_6 := (hbs2781 6 rfl).trans (sl_hit hN rfl)
   have s2781_31 : Sl a2781 31 (Value.tuple #[(Value.bool (putT h k x t).1), (Value.slice none 0 0), (Value.pointer none)]) := (Option.some.inj ((hph2781 8 _ 31 rfl rfl).1 2 rfl)).symm
   refine split_end ?_
   refine from_still (m := 16) 7 (hd := [_, _, _, _, _, _, _]) (by kernel_rfl) rfl rfl ?_
   refine st_step rfl (fun _ h9 => op_move (ev_base hN2781 rfl s2781_31) h9) ?_
   refine st_step rfl (fun _ h9 => op_extract (ev_hit hN2781 rfl) rfl h9) ?_
   refine st_step rfl (fun _ h9 => op_extract (ev_hit hN2781 rfl) rfl h9) ?_
   refine st_step rfl (fun _ h9 => op_extract (ev_hit hN2781 rfl) rfl h9) ?_
   refine st_step rfl (fun _ h9 => op_assign (ev_hit hN2781 rfl) h9) ?_
   refine st_step rfl (fun _ h9 => op_assign (ev_hit hN2781 rfl) h9) ?_
   refine st_step rfl (fun _ h9 => op_assign (ev_hit hN2781 rfl) h9) ?_
   refine st_nil ?_
   refine from_end ?_ rfl
   refine hK2724 _ _ ?_
   refine seq_any fun K2782 hK2782 => ?_
   refine seq_any fun K2783 hK2783 => ?_
   refine one_reg ?_
   refine op_move (ev_hit hN2781 rfl) ?_
   refine op_pne_none ptrt69 (ev_hit hN2781 rfl) rfl ?_
   refine reg_nil ?_
   refine hK2783 _ _ ?_
   refine wp_cond_false (ev_hit hN2781 rfl) ?_
   refine wp_skip ?_
   refine hK2782 _ _ ?_
   refine seq_any fun K2784 hK2784 => ?_
   refine one_reg ?_
   refine op_move (ev_hit hN2781 rfl) ?_
   refine op_assign (ev_hit hN2781 rfl) ?_
   refine reg_nil ?_
   refine hK2784 _ _ ?_
   refine wp_ret ?_
   refine ret1 rfl hd2781 (ev_hit hN2781 rfl) ⟨_, rfl, ?_⟩
   -- path 31F
   exact ⟨hb, rfl, q, W1_2771, hx, (by rw [hr2771]; exact hT2771), hin2780⟩

end Go.Proofs.Ytcpfdfejojghbaa

/- Walks, written by a program: what each function of the translation hands back. -/
namespace Go.Proofs.Ytcpfdfejojghbaa
open Go.Gx Go.RowKit
attribute [local irreducible] wpList wpStill Code.wp Calls
open Go.Bt
end Go.Proofs.Ytcpfdfejojghbaa

/- Walks, written by a program: what each function of the translation hands back. -/
namespace Go.Proofs.Ytcpfdfejojghbaa
open Go.Gx Go.RowKit
attribute [local irreducible] wpList wpStill Code.wp Calls
open Go.Bt
theorem putTopI {o : TO (Int)} {k : List UInt8} {xv : Value} {x : Int} {F : Nat → Prop} {p base L B : Nat} {w : World} (hT : TopR kI 71 base w p o F) (hb : base ≤ w.heap.size) (hk : RdC w L B 1 xv k.length (k.map u8v)) (hB : B ≤ w.heap.size) (hap : ∀ j, F j → j < L ∨ B ≤ j) (hkn : k.length ≤ 1000000000) :
    Ret Try.prog 23 #[ptr p 0, xv, (Value.int .i64 x)] w (fun v' w' => Gr w w' F ∧ v' = .bool (putO k x o).1 ∧ ∃ F', TopR kI 71 base w' p (putO k x o).2 F' ∧ NewF w.heap.size F F') := by
  obtain ⟨hF, hlt, hO, root, hB', hr⟩ := id hT
  rcases hr with ⟨rfl, rfl⟩ | ⟨q, R, W, rfl, hTO, hFW, hFR⟩
  · refine Ret.mono (putT0I (R := NoB) (x := x) hB' hF hk hB hap hkn) fun v' w' h => ?_
    obtain ⟨E, hv, q2, W2, hB2, hTO2, hW2⟩ := h
    exact ⟨E, hv, hT.after hb E.size (putO_ok (k := k) (x := x) hO).1 hB2 (TreeO.monoR hTO2 fun j h => h.imp (fun q => q.elim) id) hW2⟩
  · match o, hT, hO, hTO with
    | some ⟨h, t⟩, hT, hO, hTO =>
      refine Ret.mono (putT1I (x := x) hB' hF hTO hFW hO.1 hO.2.2 hk hB hap hkn) fun v' w' h => ?_
      obtain ⟨E, hv, q2, W2, hB2, hTO2, hW2⟩ := h
      exact ⟨E, hv, hT.after hb E.size (putO_ok (k := k) (x := x) hO).1 hB2 (TreeO.monoR hTO2 fun j h => h.imp (hFR j) id) hW2⟩
end Go.Proofs.Ytcpfdfejojghbaa

/- Nodes as they are looked at, level by level. -/
namespace Go.Gx
open Go.Bt Go.RowKit
section
variable {V : Type} {κ : Kd V} {w w' : World} {F G H W R : Nat → Prop} {B base b h p q n : Nat} {L : List Nat} {P : List Nat} {ts : List (Tr V (h + 1))} {l0 : List (Tr V 0)}
/-- A node of size n with these kids, that lies below B. -/
def NodeV (κ : Kd V) (B : Nat) (w : World) (p n : Nat) (L : List Nat) : Prop :=
  p < B ∧ ∃ pv kv cv a b ca cb, Bx w p κ.tB [pv, kv, cv] ∧ RdC w 0 B κ.pc pv a ca ∧ RdC w 0 B 1 kv b cb ∧ RdC w 0 B 1 cv L.length (L.flatMap cN) ∧ n = (if L.length = 0 then a else b)
theorem NodeV.below (N : NodeV κ B w p n L) (hb : Below B w w') : NodeV κ B w' p n L := by
  obtain ⟨hp, pv, kv, cv, a, b, ca, cb, h1, h2, h3, h4, h5⟩ := N
  refine ⟨hp, pv, kv, cv, a, b, ca, cb, ?_, h2.below hb, h3.below hb, h4.below hb, h5⟩
  unfold Bx; rw [hb.block p hp]; exact h1
theorem leaf_view {t : Tr V 0} (T : TreeR κ R w 0 p t W) : NodeV κ w.heap.size w p (szT 0 t) [] := by
  obtain ⟨pv, D, hL, e⟩ := T
  refine ⟨hL.bx.lt, pv, nilV, nilV, _, 0, _, [], hL.bx, hL.op.rdw.mono (Nat.zero_le _) (Nat.le_refl _), RdC.nil _ _ _ _, RdC.nil _ _ _ _, ?_⟩
  show (t : List (Ky × V)).length = D.length
  rw [← e]; simp
theorem node_view {t : Tr V (h + 1)} (T : TreeR κ R w (h + 1) p t W) (hk : t.2.length = t.1.length + 1) : ∃ L G, NodeV κ w.heap.size w p (szT (h + 1) t) L ∧ KidsR κ R w h L t.2 G ∧ ∀ k, G k → W k := by
  obtain ⟨kv, cv, K, P, G, hN, hKs, e⟩ := T
  have hl : P.length = t.2.length := hKs.len
  refine ⟨P, G, ⟨hN.bx.lt, nilV, kv, cv, 0, _, [], _, hN.bx, RdC.nil _ _ _ _, hN.ok.rdw, hN.oc.rdw, ?_⟩, hKs, hN.wg⟩
  show t.1.length = _
  rw [if_neg (by omega), ← e]; simp
/-! all of a level -/
variable {α : Type} {A : Nat → α → (Nat → Prop) → Prop} {ys9 : List α} {a : α} {f : Nat → Prop}
theorem Kids.uncons (K : Kids A (p :: P) (a :: ys9) G) : ∃ f G0, A p a f ∧ Kids A P ys9 G0 ∧ Dj f G0 ∧ (∀ k, f k → G k) ∧ (∀ k, G0 k → G k) := K.cut1 (i := 0) (by simp)
theorem Kids.cons (K : Kids A P ys9 G) (hA : A p a f) (hd : Dj f G) : Kids A (p :: P) (a :: ys9) (fun k => f k ∨ G k) := K.ins (i := 0) (Nat.zero_le _) hA hd
theorem Kids.app {P2 : List Nat} {as2 : List α} {G2 : Nat → Prop} : ∀ {P : List Nat} {ys9 : List α} {G : Nat → Prop}, Kids A P ys9 G → Kids A P2 as2 G2 → Dj G G2 → ∃ G3, Kids A (P ++ P2) (ys9 ++ as2) G3 ∧ ∀ k, G3 k → G k ∨ G2 k
  | [], ys9, G, K, K2, hd => by
    have : ys9 = [] := List.eq_nil_of_length_eq_zero K.len.symm
    subst this
    exact ⟨G2, K2, fun k => .inr⟩
  | p :: P, [], G, K, K2, hd => by have := K.len; simp at this
  | p :: P, a :: ys9, G, K, K2, hd => by
    obtain ⟨f, G0, hA, K0, hf, s1, s2⟩ := K.uncons
    obtain ⟨G3, K3, h3⟩ := Kids.app K0 K2 (fun k h => hd k (s2 k h))
    exact ⟨_, K3.cons hA (fun k h1 h2 => (h3 k h2).elim (hf k h1) (hd k (s1 k h1))), fun k hk => hk.elim (fun h => .inl (s1 k h)) fun h => (h3 k h).imp (s2 k) id⟩
theorem leaf_views : ∀ {P : List Nat} {ts : List (Tr V 0)} {G : Nat → Prop}, KidsR κ R w 0 P ts G → ∀ i, i < P.length → NodeV κ w.heap.size w (P.getD i default) ((ts.map (szT 0)).getD i 0) []
  | [], _, _, _, i, hi => by simp at hi
  | p :: P, [], _, K, _, _ => by have := Kids.len K; simp at this
  | p :: P, t :: ts, G, K, i, hi => by
    obtain ⟨f, G0, hA, K0, _⟩ := Kids.uncons K
    cases i with
    | zero => exact leaf_view hA
    | succ i => exact leaf_views K0 i (by simpa using hi)
theorem node_views : ∀ {P : List Nat} {ts : List (Tr V (h + 1))} {G : Nat → Prop}, KidsR κ R w (h + 1) P ts G → (∀ t ∈ ts, t.2.length = t.1.length + 1) →
    ∃ (PP : List (List Nat)) (G' : Nat → Prop), PP.length = P.length ∧ (∀ i, i < P.length → NodeV κ w.heap.size w (P.getD i default) ((ts.map (szT (h + 1))).getD i 0) (PP.getD i [])) ∧ KidsR κ R w h PP.flatten (ts.flatMap fun t => t.2) G' ∧ ∀ k, G' k → G k
  | [], ts, G, K, _ => by
    have : ts = [] := List.eq_nil_of_length_eq_zero (Kids.len K).symm
    subst this
    exact ⟨[], NoB, rfl, fun i hi => absurd hi (Nat.not_lt_zero i), Kids.nil _, fun k hk => hk.elim⟩
  | p :: P, [], G, K, _ => by have := Kids.len K; simp at this
  | p :: P, t :: ts, G, K, hk => by
    obtain ⟨f, G0, hA, K0, hd, s1, s2⟩ := Kids.uncons K
    obtain ⟨L, G1, hN, hK1, hG1⟩ := node_view hA (hk t (List.mem_cons_self ..))
    obtain ⟨PP, G2, hl, hv, hK2, hG2⟩ := node_views K0 (fun t ht => hk t (List.mem_cons_of_mem _ ht))
    obtain ⟨G3, hK3, hG3⟩ := Kids.app hK1 hK2 (fun k h1 h2 => hd k (hG1 k h1) (hG2 k h2))
    refine ⟨L :: PP, G3, by simp [hl], fun i hi => ?_, hK3, fun k hk => (hG3 k hk).elim (fun h => s1 k (hG1 k h)) fun h => s2 k (hG2 k h)⟩
    cases i with
    | zero => exact hN
    | succ i => exact hv i (by simpa using hi)
theorem toL_pos : ∀ {h : Nat} {t : Tr V h}, Ok h t → 1 ≤ szT h t → 1 ≤ (toL h t).length
  | 0, t, _, h1 => h1
  | h + 1, (ks, cs), H, h1 => by
    obtain ⟨N, hs⟩ := ok_node.1 H
    obtain ⟨c, hc, okc, _⟩ := N.at (i := 0) (Nat.zero_le _)
    have hm := List.mem_of_getElem? hc
    have := toL_pos okc (by have := (hs c hm).1; omega)
    obtain ⟨p, hp⟩ : ∃ p, p ∈ toL h c := List.exists_mem_of_length_pos this
    exact List.length_pos_of_mem (List.mem_flatMap.2 ⟨c, hm, hp⟩)
theorem flat_ge {α β : Type} {f : α → List β} : ∀ {l : List α}, (∀ x ∈ l, 1 ≤ (f x).length) → l.length ≤ (l.flatMap f).length
  | [], _ => Nat.le_refl _
  | a :: l, h => by
    have h1 := h a (List.mem_cons_self ..)
    have h2 := flat_ge (f := f) (l := l) (fun x hx => h x (List.mem_cons_of_mem _ hx))
    rw [List.flatMap_cons, List.length_append, List.length_cons]; omega
/-- What is still to be told: these nodes, and these levels. -/
def Now (κ : Kd V) (w : World) (P : List Nat) (rest : List (List Nat)) : Prop :=
  P = [] ∧ rest = [] ∨ ∃ h R G, ∃ ts : List (Tr V h), ts ≠ [] ∧ KidsR κ R w h P ts G ∧ (∀ t ∈ ts, Ok h t ∧ 1 ≤ szT h t) ∧ (ts.flatMap (toL h)).length ≤ 100000 ∧ rest = lvl h ts
theorem Now.done {rest : List (List Nat)} (N : Now κ w P rest) (hP : P = []) : rest = [] := by
  rcases N with ⟨_, h⟩ | ⟨h, R, G, ts, hne, hK, _⟩
  · exact h
  · exact absurd (List.eq_nil_of_length_eq_zero (by have := Kids.len hK; rw [hP] at this; exact this.symm)) hne
theorem take9 {α : Type} {l : List α} {i : Nat} {d : α} (h : i < l.length) : l.take (i + 1) = l.take i ++ [l.getD i d] := by
  have e : l.getD i d = l[i] := by simp [List.getD_eq_getElem?_getD, h]
  rw [e, List.take_append_getElem]
theorem ints_take {S : List Nat} {i : Nat} (h : i < S.length) : (S.take (i + 1)).map Int.ofNat = (S.take i).map Int.ofNat ++ [((S.getD i 0 : Nat) : Int)] := by
  rw [take9 (d := 0) h, List.map_append]; rfl
theorem flat_take9 {PP : List (List Nat)} {i : Nat} (h : i < PP.length) : (PP.take (i + 1)).flatten = (PP.take i).flatten ++ PP.getD i [] := by
  rw [take9 (d := []) h, List.flatten_append]; simp
theorem oall_snoc9 {w : World} {base : Nat} {acc : List (Value × List Int)} {v : Value} {r : List Int} (h : ∀ x9 ∈ acc, Own w base 3 1 x9.1 x9.2.length (x9.2.map (Value.int .i64))) (O : Own w base 3 1 v r.length (r.map (Value.int .i64))) : ∀ x9 ∈ acc ++ [(v, r)], Own w base 3 1 x9.1 x9.2.length (x9.2.map (Value.int .i64)) := fun x hx => by
  rcases List.mem_append.1 hx with hx | hx
  · exact h x hx
  · rw [List.mem_singleton.1 hx]; exact O
theorem Now.len {rest : List (List Nat)} (N : Now κ w P rest) : P.length ≤ 100000 := by
  rcases N with ⟨h, _⟩ | ⟨h, R, G, ts, hne, hK, hO, hn, _⟩
  · rw [h]; exact Nat.zero_le _
  · have hl : P.length = ts.length := Kids.len hK
    have := flat_ge (f := toL h) (l := ts) (fun t ht => toL_pos (hO t ht).1 (hO t ht).2)
    omega
theorem flat_le {PP : List (List Nat)} {i : Nat} : ((PP.take i).flatten).length ≤ PP.flatten.length := by
  conv => rhs; rw [← List.take_append_drop i PP, List.flatten_append, List.length_append]
  omega
/-- One level: its sizes, its kids, and what is still to be told. -/
theorem Now.step {rest : List (List Nat)} (N : Now κ w P rest) (hP : P ≠ [])   : ∃ (S : List Nat) (PP : List (List Nat)) (rest' : List (List Nat)), rest = S :: rest' ∧ S.length = P.length ∧ PP.length = P.length ∧ (∀ i, i < P.length → NodeV κ w.heap.size w (P.getD i default) (S.getD i 0) (PP.getD i [])) ∧ Now κ w PP.flatten rest' := by
  rcases N with ⟨h1, _⟩ | ⟨h, R, G, ts, hne, hK, hO, hn, rfl⟩
  · exact absurd h1 hP
  · have hl : P.length = ts.length := Kids.len hK
    match h, ts, hne, hK, hO, hn, hl with
    | 0, ts, hne, hK, hO, hn, hl =>
      refine ⟨ts.map (szT 0), List.replicate P.length [], [], rfl, by simp [hl], by simp, fun i hi => ?_, .inl ⟨by simp, rfl⟩⟩
      have e : (List.replicate P.length ([] : List Nat)).getD i [] = [] := by simp [List.getD_eq_getElem?_getD, hi]
      rw [e]; exact leaf_views hK i hi
    | h + 1, ts, hne, hK, hO, hn, hl =>
      have hk : ∀ t ∈ ts, t.2.length = t.1.length + 1 := fun t ht => (ok_node.1 (hO t ht).1).1.1
      obtain ⟨PP, G', h1, h2, h3, h4⟩ := node_views hK hk
      refine ⟨ts.map (szT (h + 1)), PP, lvl h (ts.flatMap fun t => t.2), rfl, by simp [hl], h1, h2, .inr ⟨h, R, G', _, ?_, h3, fun t ht => ?_, by rw [List.flatMap_assoc]; exact hn, rfl⟩⟩
      · obtain ⟨t, r, rfl⟩ : ∃ t r, ts = t :: r := List.exists_cons_of_ne_nil hne
        have := hk t (List.mem_cons_self ..)
        intro e
        rw [List.flatMap_cons] at e
        have e2 := (List.append_eq_nil_iff.1 e).1
        rw [e2] at this; simp at this
      · obtain ⟨c, hc, ht⟩ := List.mem_flatMap.1 ht
        obtain ⟨j, hj, rfl⟩ := List.getElem_of_mem ht
        have hh := ok_node.1 (hO c hc).1
        exact ⟨(hh.1.2.2 j _ (List.getElem?_eq_getElem hj)).1, by have := (hh.2 _ (List.getElem_mem hj)).1; omega⟩
theorem toL_h : ∀ {h : Nat} {t : Tr V h}, Ok h t → 1 ≤ szT h t → h + 1 ≤ (toL h t).length
  | 0, t, H, h1 => h1
  | h + 1, (ks, cs), H, h1 => by
    obtain ⟨N, hs⟩ := ok_node.1 H
    have h1' : 1 ≤ ks.length := h1
    have hk : cs.length = ks.length + 1 := N.1
    match cs, hk, N, hs with
    | c :: d :: r, hk, N, hs =>
      have a := toL_h (N.2.2 0 c rfl).1 (by have := (hs c (List.mem_cons_self ..)).1; omega)
      have b := toL_pos (N.2.2 1 d rfl).1 (by have := (hs d (List.mem_cons_of_mem _ (List.mem_cons_self ..))).1; omega)
      show h + 1 + 1 ≤ ((c :: d :: r).flatMap (toL h)).length
      rw [List.flatMap_cons, List.flatMap_cons, List.length_append, List.length_append]; omega
    | [], hk, _, _ => simp at hk
    | [c], hk, _, _ => exact absurd hk (by simp only [List.length_cons, List.length_nil]; omega)
theorem ks_snoc {D : List (DP V)} {d : DP V} (ks : ∀ x9 ∈ D.map pk, Own w base 5 1 x9.1 x9.2.length (x9.2.map u8v)) (O : Own w base 5 1 d.1 d.2.1.length (d.2.1.map u8v)) : ∀ x9 ∈ (D ++ [d]).map pk, Own w base 5 1 x9.1 x9.2.length (x9.2.map u8v) := fun x hx => by
  rw [List.map_append, List.mem_append] at hx
  rcases hx with hx | hx
  · exact ks x hx
  · rw [show ([d] : List (DP V)).map pk = [pk d] from rfl, List.mem_singleton] at hx
    subst hx; exact O
theorem levels_le {o : TO V} (H : OkO o) : (levels o).length ≤ (toLO o).length := by
  match o, H with
  | none, _ => exact Nat.le_refl _
  | some ⟨h, t⟩, H => show (lvl h [t]).length ≤ _; rw [lvl_len]; exact toL_h H.1 H.2.1
theorem levels_sum {o : TO V} : ((levels o).getD ((levels o).length - 1) []).sum = (toLO o).length := by
  match o with
  | none => rfl
  | some ⟨h, t⟩ =>
    have a := lvl_last (h := h) (now := [t])
    have b : (lvl h [t]).length = h + 1 := lvl_len
    show ((lvl h [t]).getD ((lvl h [t]).length - 1) []).sum = (toL h t).length
    rw [List.getLast?_eq_getElem?] at a
    rw [List.getD_eq_getElem?_getD]
    have e : (lvl h [t])[(lvl h [t]).length - 1]? = some ((lvl h [t])[(lvl h [t]).length - 1]'(by omega)) := List.getElem?_eq_getElem (by omega)
    rw [e] at a ⊢
    simpa using a
theorem now_start {q : Nat} {h : Nat} {t : Tr V h} (T : TreeR κ R w h q t W) (H : Ok h t) (h1 : 1 ≤ szT h t) (hn : (toL h t).length ≤ 100000) : Now κ w [q] (levels (some ⟨h, t⟩ : TO V)) :=
  .inr ⟨h, R, _, [t], by simp, Kids.ins (i := 0) (Kids.nil _) (Nat.zero_le _) T (fun _ _ h => h), fun c hc => by rw [List.mem_singleton.1 hc]; exact ⟨H, h1⟩, by simpa using hn, rfl⟩
theorem sum_take9 {L : List Nat} {i : Nat} (h : i < L.length) : (L.take (i + 1)).sum = (L.take i).sum + L.getD i 0 := by
  rw [take9 (d := 0) h, List.sum_append]; simp
theorem sum_le9 {L : List Nat} {i : Nat} : (L.take i).sum ≤ L.sum := by
  conv => rhs; rw [← List.take_append_drop i L, List.sum_append]
  omega
theorem ints_at {L : List Nat} {i : Nat} : (L.map Int.ofNat).getD i 0 = ((L.getD i 0 : Nat) : Int) := by
  simp only [List.getD_eq_getElem?_getD, List.getElem?_map]
  cases L[i]? <;> rfl
theorem lev_at {LL : List (Value × List Int)} {lv : List (List Nat)} (h : LL.map Prod.snd = lv.map (fun l => l.map Int.ofNat)) (i : Nat) : (LL.getD i default).2 = (lv.getD i []).map Int.ofNat := by
  have e := congrArg (fun l => l[i]?) h
  simp only [List.getElem?_map] at e
  simp only [List.getD_eq_getElem?_getD]
  cases h1 : LL[i]? <;> cases h2 : lv[i]? <;> simp [h1, h2] at e ⊢
  · rfl
  · exact e
theorem lev_len {LL : List (Value × List Int)} {lv : List (List Nat)} (h : LL.map Prod.snd = lv.map (fun l => l.map Int.ofNat)) : LL.length = lv.length := by
  have := congrArg List.length h; simpa using this
end
end Go.Gx

/- Walks, written by a program: what each function of the translation hands back. -/
namespace Go.Proofs.Ytcpfdfejojghbaa
open Go.Gx Go.RowKit
attribute [local irreducible] wpList wpStill Code.wp Calls
open Go.Bt
theorem leafUI {p : Nat} {pv kv cv : Value} {a b : Nat} {ca cb : List Value} {L : List Nat} {B : Nat} {w : World} (hx : Bx w p 115 [pv, kv, cv]) (h2 : RdC w 0 B 2 pv a ca) (h3 : RdC w 0 B 1 kv b cb) (h4 : RdC w 0 B 1 cv L.length (L.flatMap cN)) : Ret Try.prog 81 #[(ptr p 0)] w (fun v' w' => v' = .bool (decide (L.length = 0)) ∧ w' = w) := by
 have hb := Below.refl w.heap.size w
 refine enter (N := 9) Try.func81 rfl rfl (by simp) fun a0 hN hd hA => ?_
 have s0 : a0.tmps.getD 0 undef = (ptr p 0) := hA 0 (by simp)
 clear hA
 refine seq_any fun K3006 hK3006 => ?_
 refine one_reg ?_
 refine op_assign rfl ?_
 refine reg_nil ?_
 refine hK3006 _ _ ?_
 refine seq_any fun K3007 hK3007 => ?_
 refine one_reg ?_
 refine op_move (ev_base hN rfl s0) ?_
 refine op_nil (ev_hit hN rfl) ?_
 refine op_field fld115_2 (ev_hit hN rfl) ?_
 refine op_load1 (v := cv) one113 (ev_hit hN rfl) (hx.cell rfl) ?_
 refine op_len_rd Try.underlying113 (ev_hit hN rfl) h4 ?_
 refine op_eql (ev_hit hN rfl) rfl (fun c8 => ?_) (fun c8 => ?_)
 · -- 8T
  refine op_assign (ev_hit hN rfl) ?_
  refine reg_nil ?_
  refine hK3007 _ _ ?_
  refine wp_ret ?_
  refine ret1 rfl hd (ev_hit hN rfl) ⟨_, rfl, ?_⟩
  -- path 8T
  exact ⟨congrArg Value.bool (decide_eq_true (by omega)).symm, rfl⟩
 · -- 8F
  refine op_assign (ev_hit hN rfl) ?_
  refine reg_nil ?_
  refine hK3007 _ _ ?_
  refine wp_ret ?_
  refine ret1 rfl hd (ev_hit hN rfl) ⟨_, rfl, ?_⟩
  -- path 8F
  exact ⟨congrArg Value.bool (decide_eq_false (by omega)).symm, rfl⟩

theorem sizeUI {p : Nat} {pv kv cv : Value} {a b n : Nat} {ca cb : List Value} {L : List Nat} {B : Nat} {w : World} (hx : Bx w p 115 [pv, kv, cv]) (h2 : RdC w 0 B 2 pv a ca) (h3 : RdC w 0 B 1 kv b cb) (h4 : RdC w 0 B 1 cv L.length (L.flatMap cN)) (h5 : n = if L.length = 0 then a else b) : Ret Try.prog 52 #[(ptr p 0)] w (fun v' w' => v' = .int .i64 (n : Int) ∧ w' = w) := by
 have hb := Below.refl w.heap.size w
 refine enter (N := 15) Try.func52 rfl rfl (by simp) fun a0 hN hd hA => ?_
 have s0 : a0.tmps.getD 0 undef = (ptr p 0) := hA 0 (by simp)
 clear hA
 refine seq_any fun K3008 hK3008 => ?_
 refine one_reg ?_
 refine op_assign rfl ?_
 refine reg_nil ?_
 refine hK3008 _ _ ?_
 refine seq_any fun K3009 hK3009 => ?_
 refine seq_any fun K3010 hK3010 => ?_
 refine one_reg ?_
 refine op_move (ev_base hN rfl s0) ?_
 refine op_fn (vs := [(ptr p 0)]) ok81 ⟨(ev_hit hN rfl), trivial⟩ (Ret.flip (leafUI hx h2 h3 h4)) ?_
 rintro _ _ ⟨rfl, rfl⟩
 rcases Bool.eq_false_or_eq_true ((decide (L.length = 0))) with c4 | c4
 · -- 4T
  rw [c4]
  refine reg_nil ?_
  refine hK3010 _ _ ?_
  refine wp_cond_true (ev_hit hN rfl) ?_
  refine seq_any fun K3011 hK3011 => ?_
  refine one_reg ?_
  refine op_move (ev_base hN rfl s0) ?_
  refine op_nil (ev_hit hN rfl) ?_
  refine op_field fld115_0 (ev_hit hN rfl) ?_
  refine op_load1 (v := pv) one48 (ev_hit hN rfl) (hx.cell rfl) ?_
  refine op_len_rd Try.underlying48 (ev_hit hN rfl) h2 ?_
  refine op_assign (ev_hit hN rfl) ?_
  refine reg_nil ?_
  refine hK3011 _ _ ?_
  refine wp_ret (then_ret ( ?_))
  refine ret1 rfl hd (ev_hit hN rfl) ⟨_, rfl, ?_⟩
  -- path 4T
  exact ⟨by rw [h5, if_pos (of_decide_eq_true c4)], rfl⟩
 · -- 4F
  rw [c4]
  refine reg_nil ?_
  refine hK3010 _ _ ?_
  refine wp_cond_false (ev_hit hN rfl) ?_
  refine wp_skip ?_
  refine hK3009 _ _ ?_
  refine seq_any fun K3012 hK3012 => ?_
  refine one_reg ?_
  refine op_move (ev_base hN rfl s0) ?_
  refine op_nil (ev_hit hN rfl) ?_
  refine op_field fld115_1 (ev_hit hN rfl) ?_
  refine op_load1 (v := kv) one90 (ev_hit hN rfl) (hx.cell rfl) ?_
  refine op_len_rd Try.underlying90 (ev_hit hN rfl) h3 ?_
  refine op_assign (ev_hit hN rfl) ?_
  refine reg_nil ?_
  refine hK3012 _ _ ?_
  refine wp_ret ?_
  refine ret1 rfl hd (ev_hit hN rfl) ⟨_, rfl, ?_⟩
  -- path 4F
  exact ⟨by rw [h5, if_neg (of_decide_eq_false c4)], rfl⟩

theorem levels0I {p : Nat} {w : World} (hx : Bx w p 71 [.pointer none]) : Ret Try.prog 33 #[(ptr p 0)] w (fun v' w' => v' = .slice none 0 0 ∧ w' = w) := by
 have hb := Below.refl w.heap.size w
 refine enter (N := 50) Try.func33 rfl rfl (by simp) fun a0 hN hd hA => ?_
 have s0 : a0.tmps.getD 0 undef = (ptr p 0) := hA 0 (by simp)
 clear hA
 refine seq_any fun K3013 hK3013 => ?_
 refine one_reg ?_
 refine op_assign rfl ?_
 refine reg_nil ?_
 refine hK3013 _ _ ?_
 refine seq_any fun K3014 hK3014 => ?_
 refine seq_any fun K3015 hK3015 => ?_
 refine one_reg ?_
 refine op_move (ev_base hN rfl s0) ?_
 refine op_peq_some ptrt45 (ev_hit hN rfl) rfl ?_
 refine op_move (ev_hit hN rfl) ?_
 refine g_true (j := 2) (dj := 11) (b := false) rfl rfl rfl (ev_hit hN rfl) ?_
 refine op_move (ev_base hN rfl s0) ?_
 refine g_true (j := 2) (dj := 11) (b := false) rfl rfl rfl (ev_hit hN rfl) ?_
 refine op_nil (ev_hit hN rfl) ?_
 refine g_true (j := 2) (dj := 11) (b := false) rfl rfl rfl (ev_hit hN rfl) ?_
 refine op_field fld71_0 (ev_hit hN rfl) ?_
 refine g_true (j := 2) (dj := 11) (b := false) rfl rfl rfl (ev_hit hN rfl) ?_
 refine op_load1 (v := (Value.pointer none)) one69 (ev_hit hN rfl) (hx.cell rfl) ?_
 refine g_true (j := 2) (dj := 11) (b := false) rfl rfl rfl (ev_hit hN rfl) ?_
 refine op_peq_none ptrt69 (ev_hit hN rfl) rfl ?_
 refine op_pick_f (ev_hit hN rfl) (ev_hit hN rfl) ?_
 refine reg_nil ?_
 refine hK3015 _ _ ?_
 refine wp_cond_true (ev_hit hN rfl) ?_
 refine seq_any fun K3016 hK3016 => ?_
 refine one_reg ?_
 refine op_assign rfl ?_
 refine reg_nil ?_
 refine hK3016 _ _ ?_
 refine wp_ret (then_ret ( ?_))
 refine ret1 rfl hd (ev_hit hN rfl) ⟨_, rfl, ?_⟩
 -- path
 exact ⟨rfl, rfl⟩

theorem levels1I {o : TO (Int)} {p q : Nat} {w : World} (hx : Bx w p 71 [ptr q 0]) (hNow0 : Now kI w [q] (levels o)) (hlv : (levels o).length ≤ 100000) : Ret Try.prog 33 #[(ptr p 0)] w (fun v' w' => Below w.heap.size w w' ∧ ∃ LL : List (Value × List Int), Own w' w.heap.size 30 1 v' LL.length (LL.flatMap (fun x9 => [x9.1])) ∧ (∀ x9 ∈ LL, Own w' w.heap.size 3 1 x9.1 x9.2.length (x9.2.map (Value.int .i64))) ∧ LL.map Prod.snd = (levels o).map (fun l => l.map Int.ofNat)) := by
 have hb := Below.refl w.heap.size w
 refine enter (N := 50) Try.func33 rfl rfl (by simp) fun a0 hN hd hA => ?_
 have s0 : a0.tmps.getD 0 undef = (ptr p 0) := hA 0 (by simp)
 clear hA
 refine seq_any fun K3017 hK3017 => ?_
 refine one_reg ?_
 refine op_assign rfl ?_
 refine reg_nil ?_
 refine hK3017 _ _ ?_
 refine seq_any fun K3018 hK3018 => ?_
 refine seq_any fun K3019 hK3019 => ?_
 refine one_reg ?_
 refine op_move (ev_base hN rfl s0) ?_
 refine op_peq_some ptrt45 (ev_hit hN rfl) rfl ?_
 refine op_move (ev_hit hN rfl) ?_
 refine g_true (j := 2) (dj := 11) (b := false) rfl rfl rfl (ev_hit hN rfl) ?_
 refine op_move (ev_base hN rfl s0) ?_
 refine g_true (j := 2) (dj := 11) (b := false) rfl rfl rfl (ev_hit hN rfl) ?_
 refine op_nil (ev_hit hN rfl) ?_
 refine g_true (j := 2) (dj := 11) (b := false) rfl rfl rfl (ev_hit hN rfl) ?_
 refine op_field fld71_0 (ev_hit hN rfl) ?_
 refine g_true (j := 2) (dj := 11) (b := false) rfl rfl rfl (ev_hit hN rfl) ?_
 refine op_load1 (v := (ptr q 0)) one69 (ev_hit hN rfl) (hx.cell rfl) ?_
 refine g_true (j := 2) (dj := 11) (b := false) rfl rfl rfl (ev_hit hN rfl) ?_
 refine op_peq_some ptrt69 (ev_hit hN rfl) rfl ?_
 refine op_pick_f (ev_hit hN rfl) (ev_hit hN rfl) ?_
 refine reg_nil ?_
 refine hK3019 _ _ ?_
 refine wp_cond_false (ev_hit hN rfl) ?_
 refine wp_skip ?_
 refine hK3018 _ _ ?_
 refine seq_any fun K3020 hK3020 => ?_
 refine one_reg ?_
 refine op_assign rfl ?_
 refine reg_nil ?_
 refine hK3020 _ _ ?_
 refine seq_any fun K3021 hK3021 => ?_
 refine seq_any fun K3022 hK3022 => ?_
 refine one_reg ?_
 refine op_move (ev_base hN rfl s0) ?_
 refine op_nil (ev_hit hN rfl) ?_
 refine op_field fld71_0 (ev_hit hN rfl) ?_
 refine op_load1 (v := (ptr q 0)) one69 (ev_hit hN rfl) (hx.cell rfl) ?_
 refine op_bslice (e := 69) (pv := [(0, (ptr q 0))]) (cs := [(ptr q 0)]) ⟨rfl, (ev_hit hN rfl), trivial⟩ (by kernel_rfl) ?_
 intro w3023 b3024 lo_b3024 hi_b3024 hB3026 E3025
 have z_w3023 := E3025.size
 have hx := hx.keep0 E3025
 have hb := below_step0 hb E3025 hb.size
 refine op_assign (ev_hit hN rfl) ?_
 refine reg_nil ?_
 refine hK3022 _ _ ?_
 refine wp_block ?_
 refine loop_m (fun mz_ az_ w' => ∃ (u nv : Value) (acc : List (Value × List Int)) (P : List Nat) (rest : List (List Nat)), mz_ = rest.length ∧ (az_.tmps.getD 2 undef = (Value.slice none 0 0)) ∧ (az_.tmps.getD 3 undef = u) ∧ (az_.tmps.getD 4 undef = nv) ∧ (Now kI w P rest) ∧ (acc.map Prod.snd ++ rest.map (fun l => l.map Int.ofNat) = (levels o).map (fun l => l.map Int.ofNat)) ∧ (Below w.heap.size w w') ∧ (w3023.heap.size ≤ w'.heap.size) ∧ (Bx w' p 71 [(ptr q 0)]) ∧ (∀ x9 ∈ acc, Own w' w.heap.size 3 1 x9.1 x9.2.length (x9.2.map (Value.int .i64))) ∧ (Own w' w.heap.size 30 1 u acc.length (acc.flatMap (fun x9 => [x9.1]))) ∧ (Own w' w.heap.size 69 1 nv P.length (P.flatMap cN))) _ hN hd ⟨_, _, [], [q], (levels o), rfl, (sl_hit hN rfl), (sl_hit hN rfl), (sl_hit hN rfl), hNow0, rfl, hb, (Nat.le_refl _), hx, (fun x9 hx9 => absurd hx9 List.not_mem_nil), (Own.nil _ _ _ _), (Own.ofBx (base := w.heap.size) (sz := 1) (n := 1) hB3026 rfl (by decide) (by omega))⟩ ?_
 rintro _ a3027 w3027 hN3027 hd3027 ⟨u, nv, acc, P, rest, rfl, s3027_2, s3027_3, s3027_4, hNow, hlev, hb, zl_w3027, hx, hall, hO3028, hO3029⟩
 have z_w3027 := hb.size
 refine seq_any fun K3030 hK3030 => ?_
 refine seq_any fun K3031 hK3031 => ?_
 refine one_reg ?_
 refine op_move (ev_base hN3027 rfl s3027_4) ?_
 refine op_len_rd Try.underlying113 (ev_hit hN3027 rfl) hO3029.rdw ?_
 refine op_gtr (ev_hit hN3027 rfl) rfl (fun c25 => ?_) (fun c25 => ?_)
 · -- 25T
  refine reg_nil ?_
  refine hK3031 _ _ ?_
  refine wp_cond_true (ev_hit hN3027 rfl) ?_
  refine wp_skip ?_
  refine hK3030 _ _ ?_
  refine wp_block ?_
  refine seq_any fun K3032 hK3032 => ?_
  refine one_reg ?_
  refine op_assign rfl ?_
  refine reg_nil ?_
  refine hK3032 _ _ ?_
  refine seq_any fun K3033 hK3033 => ?_
  refine one_reg ?_
  refine op_assign rfl ?_
  refine reg_nil ?_
  refine hK3033 _ _ ?_
  refine seq_any fun K3034 hK3034 => ?_
  refine seq_any fun K3035 hK3035 => ?_
  refine one_reg ?_
  refine op_move (ev_base hN3027 rfl s3027_4) ?_
  have hPn := hNow.len
  obtain ⟨S, PP, rest2, hr2, hS, hPP, hV, hNx⟩ := hNow.step (fun e => by rw [e] at c25; exact absurd c25 (by decide))
  have hFn := hNx.len
  have hfl : ∀ j, ((PP.take j).flatten).length ≤ PP.flatten.length := fun j => flat_le
  refine op_len_rd Try.underlying113 (ev_hit hN3027 rfl) hO3029.rdw ?_
  refine op_move rfl ?_
  refine reg_nil ?_
  refine hK3035 _ _ ?_
  refine wp_block ?_
  refine loop_m (fun mz_ az_ w' => ∃ (i : Nat) (szv xv : Value), mz_ = P.length - i ∧ (az_.tmps.getD 2 undef = (Value.slice none 0 0)) ∧ (az_.tmps.getD 3 undef = u) ∧ (az_.tmps.getD 4 undef = nv) ∧ (az_.tmps.getD 26 undef = nv) ∧ (az_.tmps.getD 27 undef = (Value.int .i64 ((P.length : Nat) : Int))) ∧ (az_.tmps.getD 28 undef = (Value.int .i64 ((i : Nat) : Int))) ∧ (az_.tmps.getD 5 undef = szv) ∧ (az_.tmps.getD 6 undef = xv) ∧ (i ≤ P.length) ∧ (∀ x9 ∈ acc, DJ x9.1 szv) ∧ (DJ nv xv) ∧ (Below w.heap.size w w') ∧ (w3027.heap.size ≤ w'.heap.size) ∧ (Bx w' p 71 [(ptr q 0)]) ∧ (∀ x9 ∈ acc, Own w' w.heap.size 3 1 x9.1 x9.2.length (x9.2.map (Value.int .i64))) ∧ (Own w' w.heap.size 30 1 u acc.length (acc.flatMap (fun x9 => [x9.1]))) ∧ (Own w' w.heap.size 69 1 nv P.length (P.flatMap cN)) ∧ (Own w' w.heap.size 3 1 szv i (((S.take i).map Int.ofNat).map (Value.int .i64))) ∧ (Own w' w.heap.size 69 1 xv ((PP.take i).flatten).length (((PP.take i).flatten).flatMap cN))) _ hN3027 hd3027 ⟨0, _, _, rfl, (sl_base hN3027 rfl s3027_2), (sl_base hN3027 rfl s3027_3), (sl_base hN3027 rfl s3027_4), (sl_hit hN3027 rfl), (sl_hit hN3027 rfl), (sl_hit hN3027 rfl), (sl_hit hN3027 rfl), (sl_hit hN3027 rfl), (Nat.zero_le _), (fun x9 _ => dj_nil x9.1), (dj_nil _), hb, (Nat.le_refl _), hx, hall, hO3028, hO3029, (Own.nil _ _ _ _), (Own.nil _ _ _ _)⟩ ?_
  rintro _ a3036 w3036 hN3036 hd3036 ⟨i, szv, xv, rfl, s3036_2, s3036_3, s3036_4, s3036_26, s3036_27, s3036_28, s3036_5, s3036_6, hi, djs, djx, hb, zl_w3036, hx, hall, hO3028, hO3029, hO3037, hO3038⟩
  have z_w3036 := hb.size
  refine seq_any fun K3039 hK3039 => ?_
  refine one_reg ?_
  refine op_lss (ev_base hN3036 rfl s3036_28) (ev_base hN3036 rfl s3036_27) (fun c29 => ?_) (fun c29 => ?_)
  · -- 29T
   refine reg_nil ?_
   refine hK3039 _ _ ?_
   refine seq_any fun K3040 hK3040 => ?_
   refine wp_cond_true (ev_hit hN3036 rfl) ?_
   refine wp_skip ?_
   refine hK3040 _ _ ?_
   refine seq_any fun K3041 hK3041 => ?_
   refine wp_block ?_
   refine seq_any fun K3042 hK3042 => ?_
   refine one_reg ?_
   refine op_index_rd slt113 (ev_base hN3036 rfl s3036_26) hO3029.rdw (ev_base hN3036 rfl s3036_28) (by omega) (by omega) ?_
   intro b3043 o3044 h0b3043 h1b3043 hc3045
   refine op_load1 (v := (ptr (P.getD i default) 0)) one69 (ev_hit hN3036 rfl) (by have := hc3045 0 (ptr (P.getD i default) 0) (by decide) (el_pn (i := i) (by omega) (by first | omega | (simp only [List.length_drop, List.length_take]; omega))); simpa using this) ?_
   refine op_assign (ev_hit hN3036 rfl) ?_
   refine reg_nil ?_
   refine hK3042 _ _ ?_
   refine seq_any fun K3046 hK3046 => ?_
   refine one_reg ?_
   refine op_move (ev_base hN3036 rfl s3036_5) ?_
   obtain ⟨hpB3047, pv3047, kv3047, cv3047, a_3047, b_3047, ca3047, cb3047, hx3047, h2_3047, h3_3047, h4_3047, h5_3047⟩ := (hV i (by omega)).below hb
   have hx3047 : Bx w3036 (P.getD i default) 115 [pv3047, kv3047, cv3047] := hx3047
   refine op_move (ev_hit hN3036 rfl) ?_
   refine op_fn (vs := [(ptr (P.getD i default) 0)]) ok52 ⟨(ev_hit hN3036 rfl), trivial⟩ (Ret.flip (sizeUI hx3047 h2_3047 h3_3047 h4_3047 h5_3047)) ?_
   rintro _ _ ⟨rfl, rfl⟩
   refine op_bslice (e := 3) (pv := [(0, (Value.int .i64 (((S.getD i 0) : Nat) : Int)))]) (cs := [(Value.int .i64 (((S.getD i 0) : Nat) : Int))]) ⟨rfl, (ev_hit hN3036 rfl), trivial⟩ (by kernel_rfl) ?_
   intro w3048 b3049 lo_b3049 hi_b3049 hB3051 E3050
   have ne_b3049_szv : szv.ownBlock ≠ some b3049 := fun hh => by have := (hO3037.lt _ hh).2; omega
   have z_w3048 := E3050.size
   have hx := hx.keep0 E3050
   have hall : ∀ x9 ∈ acc, Own w3048 w.heap.size 3 1 x9.1 x9.2.length (x9.2.map (Value.int .i64)) := fun x9 hx9 => (hall x9 hx9).keep0 E3050
   have hO3028 := hO3028.keep0 E3050
   have hO3029 := hO3029.keep0 E3050
   have hO3037 := hO3037.keep0 E3050
   have hO3038 := hO3038.keep0 E3050
   have hx3047 := hx3047.keep0 E3050
   have h2_3047 := h2_3047.keep0 E3050
   have h3_3047 := h3_3047.keep0 E3050
   have h4_3047 := h4_3047.keep0 E3050
   have hb := below_step0 hb E3050 hb.size
   have hfl1 := hfl i
   have hfl2 := hfl (i + 1)
   have hfl3 : ((PP.take (i + 1)).flatten).length = ((PP.take i).flatten).length + (PP.getD i []).length := by rw [flat_take9 (by omega), List.length_append]
   have hP3057 := hO3037
   refine op_append slt30 (ev_hit hN3036 rfl) hP3057 (ev_hit hN3036 rfl) (Src.ofRd Try.underlying30 (by decide) (RdC.ofBx (sz := 1) (n := 1) hB3051 rfl (by decide)) (by simp [Value.oneCell', u8v])) (by unfold maxLen; omega) (by omega) hb.size ?_
   intro v3052 w3053 hO3055 E3054 hm3056
   have dja3058 : ∀ x9 ∈ acc, DJ x9.1 v3052 := fun x9 hx9 => DJ.step hm3056 (fun k hk => ((hall x9 hx9).lt k hk).2) (djs x9 hx9)
   have z_w3053 := E3054.size
   have hx := hx.keepO hP3057 E3054 (by decide)
   have hall : ∀ x9 ∈ acc, Own w3053 w.heap.size 3 1 x9.1 x9.2.length (x9.2.map (Value.int .i64)) := fun x9 hx9 => (hall x9 hx9).keepD E3054 (djs x9 hx9)
   have hO3028 := hO3028.keepT hP3057 E3054 (by decide)
   have hO3029 := hO3029.keepT hP3057 E3054 (by decide)
   have hO3038 := hO3038.keepT hP3057 E3054 (by decide)
   have hx3047 := hx3047.keepO hP3057 E3054 (by decide)
   have h2_3047 := h2_3047.keepO hP3057 E3054 (by omega)
   have h3_3047 := h3_3047.keepO hP3057 E3054 (by omega)
   have h4_3047 := h4_3047.keepO hP3057 E3054 (by omega)
   have hB3051 := hB3051.keep E3054 (fun hh => ne_b3049_szv hh.symm)
   have hb := below_stepO hb hP3057 E3054 hb.size (by omega)
   have hO3055 : Own w3053 w.heap.size 3 1 v3052 (i + 1) (((((S.take i).map Int.ofNat) ++ [(((S.getD i 0) : Nat) : Int)])).map (Value.int .i64)) := by simpa [u8v, sv] using hO3055
   have ne_b3049_v3052 : v3052.ownBlock ≠ some b3049 := ne_step (w1 := w3048) ⟨E3054, hm3056⟩ (by omega) ne_b3049_szv
   refine op_assign (ev_hit hN3036 rfl) ?_
   refine reg_nil ?_
   refine hK3046 _ _ ?_
   refine one_reg ?_
   refine op_move (ev_base hN3036 rfl s3036_6) ?_
   refine op_move (ev_hit hN3036 rfl) ?_
   refine op_nil (ev_hit hN3036 rfl) ?_
   refine op_field fld115_2 (ev_hit hN3036 rfl) ?_
   refine op_load1 (v := cv3047) one113 (ev_hit hN3036 rfl) (hx3047.cell rfl) ?_
   have hP3064 := hO3038
   refine op_append slt113 (ev_hit hN3036 rfl) hP3064 (ev_hit hN3036 rfl) (Src.ofRd Try.underlying113 (by decide) h4_3047 (one_pn _)) (by unfold maxLen; omega) (by omega) hb.size ?_
   intro v3059 w3060 hO3062 E3061 hm3063
   have dj3065 : DJ nv v3059 := DJ.step hm3063 (fun k hk => (hO3029.lt k hk).2) djx
   have z_w3060 := E3061.size
   have hx := hx.keepO hP3064 E3061 (by decide)
   have hall : ∀ x9 ∈ acc, Own w3060 w.heap.size 3 1 x9.1 x9.2.length (x9.2.map (Value.int .i64)) := fun x9 hx9 => (hall x9 hx9).keepT hP3064 E3061 (by decide)
   have hO3028 := hO3028.keepT hP3064 E3061 (by decide)
   have hO3029 := hO3029.keepD E3061 djx
   have hx3047 := hx3047.keepO hP3064 E3061 (by decide)
   have h2_3047 := h2_3047.keepO hP3064 E3061 (by omega)
   have h3_3047 := h3_3047.keepO hP3064 E3061 (by omega)
   have h4_3047 := h4_3047.keepO hP3064 E3061 (by omega)
   have hB3051 := hB3051.keepO hP3064 E3061 (by decide)
   have hO3055 := hO3055.keepT hP3064 E3061 (by decide)
   have hb := below_stepO hb hP3064 E3061 hb.size (by omega)
   have hO3062 : Own w3060 w.heap.size 69 1 v3059 (((PP.take i).flatten).length + (PP.getD i []).length) (((((PP.take i).flatten) ++ (PP.getD i []))).flatMap cN) := by simpa [u8v, sv] using hO3062
   refine op_assign (ev_hit hN3036 rfl) ?_
   refine reg_nil ?_
   refine hK3041 _ _ ?_
   refine one_reg ?_
   refine op_add (ev_base hN3036 rfl s3036_28) rfl (add64 (by omega)) ?_
   refine op_move (ev_hit hN3036 rfl) ?_
   refine reg_nil ?_
   -- round 25T 29T
   exact loop_next _ hN3036 hd3036 ⟨(i + 1), _, _, rfl, (sl_base hN3036 rfl s3036_2), (sl_base hN3036 rfl s3036_3), (sl_base hN3036 rfl s3036_4), (sl_base hN3036 rfl s3036_26), (sl_base hN3036 rfl s3036_27), (sl_hit hN3036 rfl).trans (congrArg (Value.int .i64) (by omega)), (sl_hit hN3036 rfl), (sl_hit hN3036 rfl), (by omega), dja3058, dj3065, hb, (by omega), hx, hall, hO3028, hO3029, (hO3055.cast (by omega) (by rw [ints_take (by omega)] <;> simp)), (hO3062.cast (by rw [flat_take9 (by omega)] <;> simp) (by rw [flat_take9 (by omega)] <;> simp))⟩ (by omega)
  · -- 29F
   refine reg_nil ?_
   refine hK3039 _ _ ?_
   refine seq_any fun K3066 hK3066 => ?_
   refine wp_cond_false (ev_hit hN3036 rfl) ?_
   refine wp_exit (then_exit (then_exit (blk_hit ?_)))
   refine hK3034 _ _ ?_
   refine one_reg ?_
   have hal : acc.length + rest.length = (levels o).length := by have := congrArg List.length hlev; simpa using this
   refine op_move (ev_base hN3036 rfl s3036_3) ?_
   refine op_move (ev_base hN3036 rfl s3036_5) ?_
   refine op_bslice (e := 30) (pv := [(0, szv)]) (cs := [szv]) ⟨rfl, (ev_hit hN3036 rfl), trivial⟩ (by obtain ⟨_, _, _, rfl⟩ := hO3037.sl; kernel_rfl) ?_
   intro w3067 b3068 lo_b3068 hi_b3068 hB3070 E3069
   have ne_b3068_u : u.ownBlock ≠ some b3068 := fun hh => by have := (hO3028.lt _ hh).2; omega
   have z_w3067 := E3069.size
   have hx := hx.keep0 E3069
   have hall : ∀ x9 ∈ acc, Own w3067 w.heap.size 3 1 x9.1 x9.2.length (x9.2.map (Value.int .i64)) := fun x9 hx9 => (hall x9 hx9).keep0 E3069
   have hO3028 := hO3028.keep0 E3069
   have hO3029 := hO3029.keep0 E3069
   have hO3037 := hO3037.keep0 E3069
   have hO3038 := hO3038.keep0 E3069
   have hb := below_step0 hb E3069 hb.size
   have hP3076 := hO3028
   refine op_append slt28 (ev_hit hN3036 rfl) hP3076 (ev_hit hN3036 rfl) (Src.ofRd Try.underlying28 (by decide) (RdC.ofBx (sz := 1) (n := 1) hB3070 rfl (by decide)) (by simp only [List.all_cons, List.all_nil, Bool.true_and, Bool.and_true, hO3037.one]; try rfl)) (by unfold maxLen; omega) (by omega) hb.size ?_
   intro v3071 w3072 hO3074 E3073 hm3075
   have z_w3072 := E3073.size
   have hx := hx.keepO hP3076 E3073 (by decide)
   have hall : ∀ x9 ∈ acc, Own w3072 w.heap.size 3 1 x9.1 x9.2.length (x9.2.map (Value.int .i64)) := fun x9 hx9 => (hall x9 hx9).keepT hP3076 E3073 (by decide)
   have hO3029 := hO3029.keepT hP3076 E3073 (by decide)
   have hO3037 := hO3037.keepT hP3076 E3073 (by decide)
   have hO3038 := hO3038.keepT hP3076 E3073 (by decide)
   have hB3070 := hB3070.keep E3073 (fun hh => ne_b3068_u hh.symm)
   have hb := below_stepO hb hP3076 E3073 hb.size (by omega)
   have hO3074 : Own w3072 w.heap.size 30 1 v3071 (acc.length + 1) ((acc.flatMap (fun x9 => [x9.1]) ++ [szv])) := by simpa [u8v, sv] using hO3074
   have ne_b3068_v3071 : v3071.ownBlock ≠ some b3068 := ne_step (w1 := w3067) ⟨E3073, hm3075⟩ (by omega) ne_b3068_u
   refine op_move (ev_base hN3036 rfl s3036_6) ?_
   refine op_assign (ev_hit hN3036 rfl) ?_
   refine op_assign (ev_hit hN3036 rfl) ?_
   refine reg_nil ?_
   refine blk_normal ?_
   -- round 25T 29F
   exact loop_next _ hN3036 hd3036 ⟨_, _, (acc ++ [(szv, S.map Int.ofNat)]), PP.flatten, rest2, rfl, (sl_base hN3036 rfl s3036_2), (sl_hit hN3036 rfl), (sl_hit hN3036 rfl), hNx, (by rw [← hlev, hr2]; simp), hb, (by omega), hx, (oall_snoc9 hall (hO3037.cast (by simp; omega) (by rw [List.take_of_length_le (by omega)]))), (hO3074.cast (by simp) (by simp)), (hO3038.cast (by rw [List.take_of_length_le (by omega)]) (by rw [List.take_of_length_le (by omega)]))⟩ (by rw [hr2]; simp)
 · -- 25F
  refine reg_nil ?_
  refine hK3031 _ _ ?_
  refine wp_cond_false (ev_hit hN3027 rfl) ?_
  refine wp_exit (then_exit (then_exit (blk_hit ?_)))
  refine hK3021 _ _ ?_
  refine seq_any fun K3077 hK3077 => ?_
  refine one_reg ?_
  refine op_move (ev_base hN3027 rfl s3027_3) ?_
  refine op_assign (ev_hit hN3027 rfl) ?_
  refine reg_nil ?_
  refine hK3077 _ _ ?_
  refine wp_ret ?_
  refine ret1 rfl hd3027 (ev_hit hN3027 rfl) ⟨_, rfl, ?_⟩
  -- path 25F
  have hP0 : P = [] := List.eq_nil_of_length_eq_zero (by omega)
  have hr0 := hNow.done hP0
  exact ⟨hb, acc, hO3028, hall, by rw [← hlev, hr0]; simp⟩

end Go.Proofs.Ytcpfdfejojghbaa

/- Walks, written by a program: what each function of the translation hands back. -/
namespace Go.Proofs.Ytcpfdfejojghbaa
open Go.Gx Go.RowKit
attribute [local irreducible] wpList wpStill Code.wp Calls
open Go.Bt
end Go.Proofs.Ytcpfdfejojghbaa

/- Walks, written by a program: what each function of the translation hands back. -/
namespace Go.Proofs.Ytcpfdfejojghbaa
open Go.Gx Go.RowKit
attribute [local irreducible] wpList wpStill Code.wp Calls
open Go.Bt
theorem levelsTopI {o : TO (Int)} {F : Nat → Prop} {p base : Nat} {w : World} (hT : TopR kI 71 base w p o F) (hn : (toLO o).length ≤ 100000) : Ret Try.prog 33 #[ptr p 0] w (fun v' w' => Below w.heap.size w w' ∧ ∃ LL : List (Value × List Int), Own w' w.heap.size 30 1 v' LL.length (LL.flatMap (fun x9 => [x9.1])) ∧ (∀ x9 ∈ LL, Own w' w.heap.size 3 1 x9.1 x9.2.length (x9.2.map (Value.int .i64))) ∧ LL.map Prod.snd = (levels o).map (fun l => l.map Int.ofNat)) := by
  obtain ⟨hF, hlt, hO, root, hB', hr⟩ := hT
  rcases hr with ⟨rfl, rfl⟩ | ⟨q, R, W, rfl, hTO, hFW, hFR⟩
  · exact (levels0I hB').mono fun v' w' h => by
      obtain ⟨rfl, rfl⟩ := h
      exact ⟨Below.refl _ _, [], Own.nil _ _ _ _, fun _ h => (by cases h), rfl⟩
  · match o, hO, hTO, hn with
    | some ⟨h, t⟩, hO, hTO, hn => exact levels1I hB' (now_start hTO hO.1 hO.2.1 hn) (Nat.le_trans (levels_le hO) hn)
theorem lenTopI {o : TO (Int)} {F : Nat → Prop} {p base : Nat} {w : World} (hT : TopR kI 71 base w p o F) (hn : (toLO o).length ≤ 100000) : Ret Try.prog 25 #[(ptr p 0)] w (fun v' w' => Below w.heap.size w w' ∧ v' = .int .i64 ((toLO o).length : Int)) := by
 have hO9 := hT.2.2.1
 have hb := Below.refl w.heap.size w
 refine enter (N := 28) Try.func25 rfl rfl (by simp) fun a0 hN hd hA => ?_
 have s0 : a0.tmps.getD 0 undef = (ptr p 0) := hA 0 (by simp)
 clear hA
 refine seq_any fun K3222 hK3222 => ?_
 refine one_reg ?_
 refine op_assign rfl ?_
 refine reg_nil ?_
 refine hK3222 _ _ ?_
 refine seq_any fun K3223 hK3223 => ?_
 refine one_reg ?_
 refine op_move (ev_base hN rfl s0) ?_
 refine op_fn (vs := [(ptr p 0)]) ok33 ⟨(ev_hit hN rfl), trivial⟩ (levelsTopI hT hn) ?_
 rintro v3224 w3225 ⟨E3226, LL, hO3224, hA3224, hlev⟩
 have dj3227 : Dj F (Bl v3224) := Dj.fresh (fun k hk => (hT.lt k hk).2) (fun k hk => (hO3224.lt k hk).1)
 have E3226 := grown_of_below E3226
 have z_w3225 := E3226.size
 have hT := hT.keepG (Gr.of0 E3226 NoB) (fun _ _ h => h)
 have hb := below_step0 hb E3226 hb.size
 have hLn := lev_len hlev
 have hle := levels_le hO9
 have hsum := levels_sum (o := o)
 refine op_assign (ev_hit hN rfl) ?_
 refine reg_nil ?_
 refine hK3223 _ _ ?_
 refine seq_any fun K3228 hK3228 => ?_
 refine one_reg ?_
 refine op_assign rfl ?_
 refine reg_nil ?_
 refine hK3228 _ _ ?_
 refine seq_any fun K3229 hK3229 => ?_
 refine seq_any fun K3230 hK3230 => ?_
 refine one_reg ?_
 refine op_move (ev_hit hN rfl) ?_
 refine op_len_rd Try.underlying28 (ev_hit hN rfl) hO3224.rdw ?_
 refine op_gtr (ev_hit hN rfl) rfl (fun c11 => ?_) (fun c11 => ?_)
 · -- 11T
  refine reg_nil ?_
  refine hK3230 _ _ ?_
  refine wp_cond_true (ev_hit hN rfl) ?_
  refine seq_any fun K3231 hK3231 => ?_
  refine one_reg ?_
  refine op_move (ev_hit hN rfl) ?_
  refine op_move (ev_hit hN rfl) ?_
  refine op_len_rd Try.underlying28 (ev_hit hN rfl) hO3224.rdw ?_
  refine op_sub (r := ((LL.length - 1 : Nat) : Int)) (ev_hit hN rfl) rfl ((sub64 (by omega)).trans (by omega)) ?_
  refine op_index_rd slt28 (ev_hit hN rfl) hO3224.rdw (ev_hit hN rfl) (by omega) (by omega) ?_
  intro b3232 o3233 h0b3232 h1b3232 hc3234
  have hs3235 : Own w3225 w.heap.size 3 1 (LL.getD (LL.length - 1) default).1 (LL.getD (LL.length - 1) default).2.length ((LL.getD (LL.length - 1) default).2.map (Value.int .i64)) := hA3224 _ (getD_mem (by omega))
  refine op_load1 (v := (LL.getD (LL.length - 1) default).1) one30 (ev_hit hN rfl) (by have := hc3234 0 (LL.getD (LL.length - 1) default).1 (by decide) (el_ll (i := (LL.length - 1)) (d := default) (by omega) (by omega)); simpa using this) ?_
  have hlm := rd_len hs3235.rdw
  have hLat := lev_at hlev (LL.length - 1)
  have hLl : (LL.getD (LL.length - 1) default).2.length = ((levels o).getD (LL.length - 1) []).length := by rw [hLat]; simp
  rw [← hLn] at hsum
  refine op_len_rd Try.underlying30 (ev_hit hN rfl) hs3235.rdw ?_
  refine op_move rfl ?_
  refine reg_nil ?_
  refine hK3231 _ _ ?_
  refine wp_block ?_
  refine loop_m (fun mz_ az_ w' => ∃ (i : Nat), mz_ = ((levels o).getD (LL.length - 1) []).length - i ∧ (az_.tmps.getD 2 undef = (Value.int .i64 0)) ∧ (az_.tmps.getD 17 undef = (LL.getD (LL.length - 1) default).1) ∧ (az_.tmps.getD 18 undef = (Value.int .i64 (((LL.getD (LL.length - 1) default).2.length : Nat) : Int))) ∧ (az_.tmps.getD 19 undef = (Value.int .i64 ((i : Nat) : Int))) ∧ (az_.tmps.getD 4 undef = (Value.int .i64 ((((((levels o).getD (LL.length - 1) []).take i).sum) : Nat) : Int))) ∧ (i ≤ ((levels o).getD (LL.length - 1) []).length) ∧ (Below w.heap.size w w') ∧ (w3225.heap.size ≤ w'.heap.size) ∧ (TopR kI 71 base w' p o F) ∧ (∀ x9 ∈ LL, Own w' w.heap.size 3 1 x9.1 x9.2.length (x9.2.map (Value.int .i64))) ∧ (Own w' w.heap.size 3 1 (LL.getD (LL.length - 1) default).1 (LL.getD (LL.length - 1) default).2.length ((LL.getD (LL.length - 1) default).2.map (Value.int .i64)))) _ hN hd ⟨0, rfl, (sl_hit hN rfl), (sl_hit hN rfl), (sl_hit hN rfl), (sl_hit hN rfl), (sl_hit hN rfl), (Nat.zero_le _), hb, (Nat.le_refl _), hT, hA3224, hs3235⟩ ?_
  rintro _ a3236 w3236 hN3236 hd3236 ⟨i, rfl, s3236_2, s3236_17, s3236_18, s3236_19, s3236_4, hi, hb, zl_w3236, hT, hA3224, hs3235⟩
  have z_w3236 := hb.size
  refine seq_any fun K3237 hK3237 => ?_
  refine one_reg ?_
  refine op_lss (ev_base hN3236 rfl s3236_19) (ev_base hN3236 rfl s3236_18) (fun c20 => ?_) (fun c20 => ?_)
  · -- 20T
   refine reg_nil ?_
   refine hK3237 _ _ ?_
   refine seq_any fun K3238 hK3238 => ?_
   refine wp_cond_true (ev_hit hN3236 rfl) ?_
   refine wp_skip ?_
   refine hK3238 _ _ ?_
   refine seq_any fun K3239 hK3239 => ?_
   refine wp_block ?_
   refine seq_any fun K3240 hK3240 => ?_
   refine one_reg ?_
   refine op_index_rd slt30 (ev_base hN3236 rfl s3236_17) hs3235.rdw (ev_base hN3236 rfl s3236_19) (by omega) (by omega) ?_
   intro b3241 o3242 h0b3241 h1b3241 hc3243
   refine op_load1 (v := (Value.int .i64 ((LL.getD (LL.length - 1) default).2.getD i 0))) one3 (ev_hit hN3236 rfl) (by have := hc3243 0 (Value.int .i64 ((LL.getD (LL.length - 1) default).2.getD i 0)) (by decide) (el_i64 (i := i) (by omega) (by omega)); simpa using this) ?_
   refine op_assign (ev_hit hN3236 rfl) ?_
   refine reg_nil ?_
   refine hK3240 _ _ ?_
   refine one_reg ?_
   refine op_move (ev_base hN3236 rfl s3236_4) ?_
   refine op_move (ev_hit hN3236 rfl) ?_
   refine op_add (r := (((((levels o).getD (LL.length - 1) []).take i).sum + ((levels o).getD (LL.length - 1) []).getD i 0 : Nat) : Int)) (ev_hit hN3236 rfl) (ev_hit hN3236 rfl) (by rw [hLat, ints_at]; have q1 := sum_take9 (L := ((levels o).getD (LL.length - 1) [])) (i := i) (by omega); have q2 := sum_le9 (L := ((levels o).getD (LL.length - 1) [])) (i := i + 1); exact (add64 (by omega)).trans (by omega)) ?_
   refine op_assign (ev_hit hN3236 rfl) ?_
   refine reg_nil ?_
   refine hK3239 _ _ ?_
   refine one_reg ?_
   refine op_add (ev_base hN3236 rfl s3236_19) rfl (add64 (by omega)) ?_
   refine op_move (ev_hit hN3236 rfl) ?_
   refine reg_nil ?_
   -- round 11T 20T
   exact loop_next _ hN3236 hd3236 ⟨(i + 1), rfl, (sl_base hN3236 rfl s3236_2), (sl_base hN3236 rfl s3236_17), (sl_base hN3236 rfl s3236_18), (sl_hit hN3236 rfl).trans (congrArg (Value.int .i64) (by omega)), (sl_hit hN3236 rfl).trans (congrArg (Value.int .i64) (by rw [sum_take9 (by omega)])), (by omega), hb, (by omega), hT, hA3224, hs3235⟩ (by omega)
  · -- 20F
   refine reg_nil ?_
   refine hK3237 _ _ ?_
   refine seq_any fun K3244 hK3244 => ?_
   refine wp_cond_false (ev_hit hN3236 rfl) ?_
   refine wp_exit (then_exit (then_exit (blk_hit ?_)))
   refine hK3229 _ _ ?_
   refine seq_any fun K3245 hK3245 => ?_
   refine one_reg ?_
   refine op_move (ev_base hN3236 rfl s3236_4) ?_
   refine op_assign (ev_hit hN3236 rfl) ?_
   refine reg_nil ?_
   refine hK3245 _ _ ?_
   refine wp_ret ?_
   refine ret1 rfl hd3236 (ev_hit hN3236 rfl) ⟨_, rfl, ?_⟩
   -- path 11T 20F
   exact ⟨hb, congrArg (Value.int .i64) (by rw [← hsum, List.take_of_length_le (by omega)])⟩
 · -- 11F
  refine reg_nil ?_
  refine hK3230 _ _ ?_
  refine wp_cond_false (ev_hit hN rfl) ?_
  refine wp_skip ?_
  refine hK3229 _ _ ?_
  refine seq_any fun K3246 hK3246 => ?_
  refine one_reg ?_
  refine op_move (ev_hit hN rfl) ?_
  refine op_assign (ev_hit hN rfl) ?_
  refine reg_nil ?_
  refine hK3246 _ _ ?_
  refine wp_ret ?_
  refine ret1 rfl hd (ev_hit hN rfl) ⟨_, rfl, ?_⟩
  -- path 11F
  exact ⟨hb, congrArg (Value.int .i64) (by rw [← hsum]; rw [show (levels o) = [] from List.eq_nil_of_length_eq_zero (by omega)]; rfl)⟩

end Go.Proofs.Ytcpfdfejojghbaa

/- Walks, written by a program: what each function of the translation hands back. -/
namespace Go.Proofs.Ytcpfdfejojghbaa
open Go.Gx Go.RowKit
attribute [local irreducible] wpList wpStill Code.wp Calls
open Go.Bt
theorem scan1I {l : List UInt8} {kv : Value} {x : Int} {D : List (DP (Int))} {ov : Value} {m : Int} {ob lb base : Nat} {w : World} (hbase : base ≤ w.heap.size) (hob : Bx w ob 48 [ov]) (hlb : Bx w lb 3 [.int .i64 m]) (hne : ob ≠ lb) (O : Own w base 51 2 ov D.length (D.flatMap cI)) (ks : ∀ x9 ∈ D.map pk, Own w base 5 1 x9.1 x9.2.length (x9.2.map u8v)) (hkk : RdC w 0 w.heap.size 1 kv l.length (l.map u8v)) (hkn : l.length ≤ 1000000000) (hD : D.length ≤ 1000000) : Ret Try.prog 50 #[(Value.agg #[kv, (Value.int .i64 x)]), (ptr ob 0), (ptr lb 0)] w (fun v' w' => Gr w w' (fun y => y = ob ∨ Bl ov y) ∧ v' = .bool (decide (((D.length + 1 : Nat) : Int) < m)) ∧ ∃ ov' kv', Bx w' ob 48 [ov'] ∧ Own w' base 51 2 ov' (D ++ [(kv', l, x)]).length ((D ++ [(kv', l, x)]).flatMap cI) ∧ (∀ x9 ∈ (D ++ [(kv', l, x)]).map pk, Own w' base 5 1 x9.1 x9.2.length (x9.2.map u8v)) ∧ Bx w' lb 3 [.int .i64 m] ∧ (ov'.ownBlock = ov.ownBlock ∨ ∀ k, ov'.ownBlock = some k → w.heap.size ≤ k) ∧ ∀ k, kv'.ownBlock = some k → w.heap.size ≤ k) := by
 have hi_ob := hob.lt
 have hi_lb := hlb.lt
 have hb := Gr.refl w (fun y => y = ob ∨ Bl ov y)
 refine enter (N := 18) Try.func50 rfl rfl (by simp) fun a0 hN hd hA => ?_
 have s0 : a0.tmps.getD 0 undef = (Value.agg #[kv, (Value.int .i64 x)]) := hA 0 (by simp)
 have s1 : a0.tmps.getD 1 undef = (ptr ob 0) := hA 1 (by simp)
 have s2 : a0.tmps.getD 2 undef = (ptr lb 0) := hA 2 (by simp)
 clear hA
 refine seq_any fun K3297 hK3297 => ?_
 refine one_reg ?_
 refine op_box (cs := [kv, (Value.int .i64 x)]) (ev_base hN rfl s0) rfl ?_
 intro w3298 b3299 lo_b3299 hi_b3299 hB3301 E3300
 have ne_b3299_ov : ov.ownBlock ≠ some b3299 := fun hh => by have := (O.lt _ hh).2; omega
 have z_w3298 := E3300.size
 have hob := hob.keep0 E3300
 have hlb := hlb.keep0 E3300
 have O := O.keep0 E3300
 have ks : ∀ x9 ∈ (D.map pk), Own w3298 base 5 1 x9.1 x9.2.length (x9.2.map u8v) := fun x9 hx9 => (ks x9 hx9).keep0 E3300
 have hkk := hkk.keep0 E3300
 have hb := hb.step0 E3300
 refine op_assign rfl ?_
 refine reg_nil ?_
 refine hK3297 _ _ ?_
 refine seq_any fun K3302 hK3302 => ?_
 refine reg_split (hd := [_, _, _, _, _, _, _, _, _]) (tl := _) 9 mixed (by kernel_rfl) rfl rfl ?_
 refine any_env (φ := phiV [(fun uz => uz = ov), (fun uz => uz = (ptr b3299 0)), (fun uz => uz = kv), (fun _ => True), (fun uz => uz = (ptr b3299 1)), (fun uz => uz = (Value.int .i64 x)), (fun _ => True), (fun _ => True), (fun _ => True)]) (G := fun w' => Bx w' ob 48 [ov] ∧ Bx w' b3299 51 [kv, (Value.int .i64 x)]) [3, 6, 7, 8] (by kernel_rfl) (by kernel_rfl) (by kernel_rfl) (by kernel_rfl) hN (fun w1 w2 E h => by obtain ⟨h0, h1⟩ := h; exact ⟨h0.keep0 E, h1.keep0 E⟩) ⟨hob, hB3301⟩ (ObEs.cons ?_ (ObEs.cons ?_ (ObEs.cons ?_ (ObEs.pass rfl (ObEs.cons ?_ (ObEs.cons ?_ (ObEs.pass rfl (ObEs.pass rfl (ObEs.pass rfl (ObEs.nil)))))))))) (by simp only [putsL_defers]) ?_
 ·
  intro eA aA wA hNA hGA hbsA hdpA
  have qA_1 := (hbsA 1 rfl).trans (sl_base hN rfl s1)
  obtain ⟨hob, hB3301⟩ := hGA
  refine op_load1 (v := ov) one48 (ev_base hNA rfl qA_1) (hob.cell rfl) ?_
  exact obE_end rfl rfl rfl
 ·
  intro eA aA wA hNA hGA hbsA hdpA
  have qA_3 := (hbsA 3 rfl).trans (sl_hit hN rfl)
  refine op_field fld51_0 (ev_base hNA rfl qA_3) ?_
  exact obE_end rfl rfl rfl
 ·
  intro eA aA wA hNA hGA hbsA hdpA
  have qA_6 : Sl aA 6 (ptr b3299 0) := (hdpA 1 _ 6 (by kernel_rfl) rfl rfl).2 rfl
  obtain ⟨hob, hB3301⟩ := hGA
  refine op_load1 (v := kv) one27 (ev_base hNA rfl qA_6) (hB3301.cell rfl) ?_
  exact obE_end rfl rfl rfl
 ·
  intro eA aA wA hNA hGA hbsA hdpA
  have qA_3 := (hbsA 3 rfl).trans (sl_hit hN rfl)
  refine op_field fld51_1 (ev_base hNA rfl qA_3) ?_
  exact obE_end rfl rfl rfl
 ·
  intro eA aA wA hNA hGA hbsA hdpA
  have qA_9 : Sl aA 9 (ptr b3299 1) := (hdpA 4 _ 9 (by kernel_rfl) rfl rfl).2 rfl
  obtain ⟨hob, hB3301⟩ := hGA
  refine op_load1 (v := (Value.int .i64 x)) one3 (ev_base hNA rfl qA_9) (hB3301.cell rfl) ?_
  exact obE_end rfl rfl rfl
 ·
  intro w3303 E3303 _ a3303 hN3303 hbs3303 hdp3303 o_ ho_; obtain rfl := Option.some.inj ho_
  have z_w3303 := E3303.size
  have hob := hob.keep0 E3303
  have hlb := hlb.keep0 E3303
  have O := O.keep0 E3303
  have ks : ∀ x9 ∈ (D.map pk), Own w3303 base 5 1 x9.1 x9.2.length (x9.2.map u8v) := fun x9 hx9 => (ks x9 hx9).keep0 E3303
  have hkk := hkk.keep0 E3303
  have hB3301 := hB3301.keep0 E3303
  have hb := hb.step0 E3303
  have q3303_7 : Sl a3303 7 kv := (hdp3303 2 _ 7 (by kernel_rfl) rfl rfl).2 rfl
  refine op_fn (vs := [kv]) ok41 ⟨(ev_base hN3303 rfl q3303_7), trivial⟩ (clB (hkk.mono (Nat.zero_le _) (by omega)) (by omega)) ?_
  rintro v3304 w3305 ⟨E3306, hO3304⟩
  have dja3307 : ∀ x9 ∈ (D.map pk), DJ x9.1 v3304 := fun x9 hx9 k hk hg => by have q1 := ((ks x9 hx9).lt k hk).2; have q2 := (hO3304.lt k hg).1; omega
  have E3306 := grown_of_below E3306
  have z_w3305 := E3306.size
  have hob := hob.keep0 E3306
  have hlb := hlb.keep0 E3306
  have O := O.keep0 E3306
  have ks : ∀ x9 ∈ (D.map pk), Own w3305 base 5 1 x9.1 x9.2.length (x9.2.map u8v) := fun x9 hx9 => (ks x9 hx9).keep0 E3306
  have hkk := hkk.keep0 E3306
  have hB3301 := hB3301.keep0 E3306
  have hb := hb.step0 E3306
  have hO3304 := hO3304.mono (base' := w.heap.size) (by omega)
  skip
  skip
  refine ke_end rfl (by decide) rfl ⟨hob, hB3301⟩ ?_
  intro w3308 E3308 _ a3308 hN3308 hbs3308 hdp3308 o_ ho_; obtain rfl := Option.some.inj ho_
  have z_w3308 := E3308.size
  have hob := hob.keep0 E3308
  have hlb := hlb.keep0 E3308
  have O := O.keep0 E3308
  have ks : ∀ x9 ∈ (D.map pk), Own w3308 base 5 1 x9.1 x9.2.length (x9.2.map u8v) := fun x9 hx9 => (ks x9 hx9).keep0 E3308
  have hB3301 := hB3301.keep0 E3308
  have hO3304 := hO3304.keep0 E3308
  have hb := hb.step0 E3308
  have q3308_8 : Sl a3308 8 v3304 := (Option.some.inj ((hdp3308 3 _ 8 (by kernel_rfl) rfl rfl).1 0 rfl)).symm
  have q3308_10 : Sl a3308 10 (Value.int .i64 x) := (hdp3308 5 _ 10 (by kernel_rfl) rfl rfl).2 rfl
  refine op_build (pv := [(0, v3304), (1, (Value.int .i64 x))]) (v := (Value.agg #[v3304, (Value.int .i64 x)])) ⟨rfl, (ev_base hN3308 rfl q3308_8), ⟨rfl, (ev_base hN3308 rfl q3308_10), trivial⟩⟩ (by obtain ⟨_, _, _, rfl⟩ := hO3304.sl; kernel_rfl) ?_
  refine ke_end rfl (by decide) rfl ⟨hob, hB3301⟩ ?_
  intro w3309 E3309 _ a3309 hN3309 hbs3309 hdp3309 o_ ho_; obtain rfl := Option.some.inj ho_
  have z_w3309 := E3309.size
  have hob := hob.keep0 E3309
  have hlb := hlb.keep0 E3309
  have O := O.keep0 E3309
  have ks : ∀ x9 ∈ (D.map pk), Own w3309 base 5 1 x9.1 x9.2.length (x9.2.map u8v) := fun x9 hx9 => (ks x9 hx9).keep0 E3309
  have hB3301 := hB3301.keep0 E3309
  have hO3304 := hO3304.keep0 E3309
  have hb := hb.step0 E3309
  have q3309_11 : Sl a3309 11 (Value.agg #[v3304, (Value.int .i64 x)]) := (Option.some.inj ((hdp3309 6 _ 11 (by kernel_rfl) rfl rfl).1 1 rfl)).symm
  refine op_bslice (e := 51) (pv := [(0, (Value.agg #[v3304, (Value.int .i64 x)]))]) (cs := [v3304, (Value.int .i64 x)]) ⟨rfl, (ev_base hN3309 rfl q3309_11), trivial⟩ (by obtain ⟨_, _, _, rfl⟩ := hO3304.sl; kernel_rfl) ?_
  intro w3310 b3311 lo_b3311 hi_b3311 hB3313 E3312
  have ne_b3311_ov : ov.ownBlock ≠ some b3311 := fun hh => by have := (O.lt _ hh).2; omega
  have z_w3310 := E3312.size
  have hob := hob.keep0 E3312
  have hlb := hlb.keep0 E3312
  have O := O.keep0 E3312
  have ks : ∀ x9 ∈ (D.map pk), Own w3310 base 5 1 x9.1 x9.2.length (x9.2.map u8v) := fun x9 hx9 => (ks x9 hx9).keep0 E3312
  have hB3301 := hB3301.keep0 E3312
  have hO3304 := hO3304.keep0 E3312
  have hb := hb.step0 E3312
  refine ke_end rfl (by decide) rfl ⟨hob, hB3301⟩ ?_
  intro w3314 E3314 _ a3314 hN3314 hbs3314 hdp3314 o_ ho_; obtain rfl := Option.some.inj ho_
  have z_w3314 := E3314.size
  have hob := hob.keep0 E3314
  have hlb := hlb.keep0 E3314
  have O := O.keep0 E3314
  have ks : ∀ x9 ∈ (D.map pk), Own w3314 base 5 1 x9.1 x9.2.length (x9.2.map u8v) := fun x9 hx9 => (ks x9 hx9).keep0 E3314
  have hB3301 := hB3301.keep0 E3314
  have hO3304 := hO3304.keep0 E3314
  have hB3313 := hB3313.keep0 E3314
  have hb := hb.step0 E3314
  have q3314_5 : Sl a3314 5 ov := (hdp3314 0 _ 5 (by kernel_rfl) rfl rfl).2 rfl
  have q3314_12 : Sl a3314 12 (Value.slice (some ⟨b3311, 0, none⟩) 1 1) := (Option.some.inj ((hdp3314 7 _ 12 (by kernel_rfl) rfl rfl).1 2 rfl)).symm
  have hP3320 := O
  refine op_append slt48 (ev_base hN3314 rfl q3314_5) hP3320 (ev_base hN3314 rfl q3314_12) (Src.ofRd Try.underlying48 (by decide) (RdC.ofBx (sz := 2) (n := 1) hB3313 rfl (by decide)) (by simp only [List.all_cons, List.all_nil, Bool.true_and, Bool.and_true, hO3304.one]; try rfl)) (by unfold maxLen; omega) (by omega) (Nat.le_trans (by assumption) hb.size) ?_
  intro v3315 w3316 hO3318 E3317 hm3319
  have z_w3316 := E3317.size
  have hob := hob.keepO hP3320 E3317 (by decide)
  have hlb := hlb.keepO hP3320 E3317 (by decide)
  have ks : ∀ x9 ∈ (D.map pk), Own w3316 base 5 1 x9.1 x9.2.length (x9.2.map u8v) := fun x9 hx9 => (ks x9 hx9).keepT hP3320 E3317 (by decide)
  have hB3301 := hB3301.keep E3317 (fun hh => ne_b3299_ov hh.symm)
  have hO3304 := hO3304.keepT hP3320 E3317 (by decide)
  have hB3313 := hB3313.keep E3317 (fun hh => ne_b3311_ov hh.symm)
  have hb := hb.stepL E3317 (fun k _ h => .inr h)
  have hO3318 : Own w3316 base 51 2 v3315 (D.length + 1) ((D.flatMap cI ++ [v3304, (Value.int .i64 x)])) := by simpa [u8v, sv] using hO3318
  have ne_b3299_v3315 : v3315.ownBlock ≠ some b3299 := ne_step (w1 := w3314) ⟨E3317, hm3319⟩ (by omega) ne_b3299_ov
  have ne_b3311_v3315 : v3315.ownBlock ≠ some b3311 := ne_step (w1 := w3314) ⟨E3317, hm3319⟩ (by omega) ne_b3311_ov
  refine ke_end rfl (by decide) rfl ⟨hob, hB3301⟩ ?_
  intro w3321 E3321 a3321 hN3321 hd3321 hbs3321 hph3321
  have hd3321 := hd3321.trans ((by simp only [putsL_defers] : _ = _).trans hd)
  have z_w3321 := E3321.size
  have hob := hob.keep0 E3321
  have hlb := hlb.keep0 E3321
  have ks : ∀ x9 ∈ (D.map pk), Own w3321 base 5 1 x9.1 x9.2.length (x9.2.map u8v) := fun x9 hx9 => (ks x9 hx9).keep0 E3321
  have hB3301 := hB3301.keep0 E3321
  have hO3304 := hO3304.keep0 E3321
  have hB3313 := hB3313.keep0 E3321
  have hO3318 := hO3318.keep0 E3321
  have hb := hb.step0 E3321
  have s3321_1 := (hbs3321 1 rfl).trans (sl_base hN rfl s1)
  have s3321_2 := (hbs3321 2 rfl).trans (sl_base hN rfl s2)
  have s3321_4 := (hbs3321 4 rfl).trans (sl_hit hN rfl)
  have s3321_13 : Sl a3321 13 v3315 := (Option.some.inj ((hph3321 8 _ 13 rfl rfl).1 3 rfl)).symm
  refine split_end ?_
  refine from_seq (tl := [_]) (by decide) (by kernel_rfl) rfl ?_
  have hob_old := hob
  refine op_store (vs := [v3315]) (cs' := [v3315]) size48 (ev_base hN3321 rfl s3321_1) (ev_base hN3321 rfl s3321_13) hO3318.cl rfl (by simp only [List.all_cons, List.all_nil, Bool.true_and, Bool.and_true, hO3318.one]; try rfl) hob (Nat.le_of_ble_eq_true rfl) rfl ?_
  intro w3324 hob E3325
  have z_w3324 := E3325.size
  have hlb := hlb.keep E3325 (fun hh => hlb.ne hob_old (by decide) (Option.some.inj hh))
  have ks : ∀ x9 ∈ (D.map pk), Own w3324 base 5 1 x9.1 x9.2.length (x9.2.map u8v) := fun x9 hx9 => (ks x9 hx9).keepX hob_old E3325 (by decide)
  have hB3301 := hB3301.keep E3325 (fun hh => hB3301.ne hob_old (by decide) (Option.some.inj hh))
  have hO3304 := hO3304.keepX hob_old E3325 (by decide)
  have hB3313 := hB3313.keep E3325 (fun hh => hB3313.ne hob_old (by decide) (Option.some.inj hh))
  have hO3318 := hO3318.keepX hob_old E3325 (by decide)
  have hb := hb.stepB E3325 (.inl rfl)
  refine reg_nil ?_
  refine hK3302 _ _ ?_
  refine seq_any fun K3326 hK3326 => ?_
  refine one_reg ?_
  refine op_load1 (v := v3315) one48 (ev_base hN3321 rfl s3321_1) (hob.cell rfl) ?_
  refine op_len_rd Try.underlying48 (ev_hit hN3321 rfl) hO3318.rdw ?_
  refine op_load1 (v := (Value.int .i64 m)) one3 (ev_base hN3321 rfl s3321_2) (hlb.cell rfl) ?_
  refine op_lss (ev_hit hN3321 rfl) (ev_hit hN3321 rfl) (fun c17 => ?_) (fun c17 => ?_)
  · -- 17T
   refine op_assign (ev_hit hN3321 rfl) ?_
   refine reg_nil ?_
   refine hK3326 _ _ ?_
   refine wp_ret ?_
   refine ret1 rfl hd3321 (ev_hit hN3321 rfl) ⟨_, rfl, ?_⟩
   -- path 17T
   exact ⟨hb, congrArg Value.bool (decide_eq_true (by omega)).symm, v3315, v3304, hob, hO3318.cast (by simp) (by simp [cI]), ks_snoc ks (hO3304.mono (by omega)), hlb, hm3319.imp id fun h k hk => Nat.le_trans (by omega) (h k hk), fun k hk => (hO3304.lt k hk).1⟩
  · -- 17F
   refine op_assign (ev_hit hN3321 rfl) ?_
   refine reg_nil ?_
   refine hK3326 _ _ ?_
   refine wp_ret ?_
   refine ret1 rfl hd3321 (ev_hit hN3321 rfl) ⟨_, rfl, ?_⟩
   -- path 17F
   exact ⟨hb, congrArg Value.bool (decide_eq_false (by omega)).symm, v3315, v3304, hob, hO3318.cast (by simp) (by simp [cI]), ks_snoc ks (hO3304.mono (by omega)), hlb, hm3319.imp id fun h k hk => Nat.le_trans (by omega) (h k hk), fun k hk => (hO3304.lt k hk).1⟩

end Go.Proofs.Ytcpfdfejojghbaa

/- Scans: the pairs from a key on, so many of them. -/
namespace Go.Gx
open Go.Bt Go.RowKit
section
variable {V : Type} {κ : Kd V} {w w' : World} {F G H W R : Nat → Prop} {B base b h p q n ob lb tS : Nat} {m : Int} {L : List Nat} {P : List Nat} {D D2 : List (DP V)} {ov : Value} {x : Ky}
/-- What a scan has taken: the list in a variable, and the limit in another; F: their blocks. -/
def AccR (κ : Kd V) (tS B ob lb : Nat) (m : Int) (w : World) (D : List (DP V)) (F : Nat → Prop) : Prop :=
  B ≤ ob ∧ B ≤ lb ∧ ob ≠ lb ∧ (∃ ov, Bx w ob tS [ov] ∧ Own w B κ.tP κ.pc ov D.length (D.flatMap κ.ce) ∧ ∀ k, F k ↔ k = ob ∨ k = lb ∨ Bl ov k) ∧ Bx w lb 3 [.int .i64 m] ∧ (∀ x9 ∈ D.map pk, Own w B 5 1 x9.1 x9.2.length (x9.2.map u8v)) ∧ (D.map pk).Pairwise (fun a b => Dj (Bl a.1) (Bl b.1))
theorem AccR.lt (T : AccR κ tS B ob lb m w D F) : ∀ k, F k → B ≤ k ∧ k < w.heap.size := fun k hk => by
  obtain ⟨h1, h2, _, ⟨ov, hB, hO, hF⟩, hL, _⟩ := T
  rcases (hF k).1 hk with rfl | rfl | hk
  · exact ⟨h1, hB.lt⟩
  · exact ⟨h2, hL.lt⟩
  · exact hO.lt k hk
theorem AccR.keepG (T : AccR κ tS B ob lb m w D F) (E : Gr w w' H) (hd : Dj F H) (hn : NoK w H) : AccR κ tS B ob lb m w' D F := by
  obtain ⟨h1, h2, h3, ⟨ov, hB, hO, hF⟩, hL, hk, hp⟩ := T
  exact ⟨h1, h2, h3, ⟨ov, hB.keepG E (hd _ ((hF _).2 (.inl rfl))), hO.keepG E (fun k hk => hd k ((hF k).2 (.inr (.inr hk)))), hF⟩, hL.keepG E (hd _ ((hF _).2 (.inr (.inl rfl)))), fun x9 hx => (hk x9 hx).keepG E (hn.key (hk x9 hx |>.mono (Nat.zero_le _))), hp⟩
variable {α : Type} {A : Nat → α → (Nat → Prop) → Prop} {ys9 : List α} {i : Nat} {a : α}
theorem Kids.get (K : Kids A P ys9 G) (hc : ys9[i]? = some a) : ∃ f, A (P.getD i default) a f ∧ ∀ k, f k → G k := by
  obtain ⟨f, G0, h1, _, _, h2, _⟩ := K.cutc hc
  exact ⟨f, h1, h2⟩
theorem pw_snoc {d : DP V} (h : (D.map pk).Pairwise (fun a b => Dj (Bl a.1) (Bl b.1))) (hd : ∀ a ∈ D.map pk, Dj (Bl a.1) (Bl d.1)) : ((D ++ [d]).map pk).Pairwise (fun a b => Dj (Bl a.1) (Bl b.1)) := by
  rw [List.map_append, List.pairwise_append]
  exact ⟨h, List.pairwise_singleton _ _, fun a ha b hb => by rw [show ([d] : List (DP V)).map pk = [pk d] from rfl, List.mem_singleton] at hb; subst hb; exact hd a ha⟩
theorem TreeR.later {h : Nat} {tr : Tr V h} (T : TreeR κ R w h p tr W) (E : Gr w w' (fun k => B ≤ k)) (hW : ∀ k, W k → k < B) (hR : ∀ k, R k → k < B) : TreeR κ R w' h p tr W :=
  T.keepR E (fun k hk hh => by have := hW k hk; omega) (fun k hk hh => by have := hR k hk; omega)
end
end Go.Gx
namespace Go.Bt
section
variable {V : Type} {h : Nat}
/-- The pairs from x on. -/
def geL (x : Ky) (l : List (Ky × V)) : List (Ky × V) := l.filter fun p => decide (x ≤ p.1)
theorem geL_app {x : Ky} {a b : List (Ky × V)} : geL x (a ++ b) = geL x a ++ geL x b := List.filter_append ..
theorem geL_none {x : Ky} {a : List (Ky × V)} (h : ∀ p ∈ a, p.1 < x) : geL x a = [] := by
  unfold geL; rw [List.filter_eq_nil_iff]; intro p hp; have := h p hp; simp only [decide_eq_true_eq]; grind
theorem geL_all {x : Ky} {a : List (Ky × V)} (h : ∀ p ∈ a, x ≤ p.1) : geL x a = a := by
  unfold geL; rw [List.filter_eq_self]; intro p hp; simpa using h p hp
theorem geL_leaf {x : Ky} {l : List (Ky × V)} (H : Sorted (l.map Prod.fst)) : geL x l = l.drop (pos (l.map Prod.fst) x) := by
  conv => lhs; rw [← List.take_append_drop (pos (l.map Prod.fst) x) l]
  have hl := pos_le (l.map Prod.fst) x
  rw [List.length_map] at hl
  rw [geL_app, geL_none, geL_all, List.nil_append]
  · intro p hp
    obtain ⟨q, hq, rfl⟩ := List.getElem_of_mem hp
    rw [List.length_drop] at hq
    rw [List.getElem_drop]
    have := pos_sorted H (x := x) (j := pos (l.map Prod.fst) x + q) (by simp; omega)
    simp only [List.getElem_map] at this
    grind
  · intro p hp
    obtain ⟨q, hq, rfl⟩ := List.getElem_of_mem hp
    rw [List.length_take] at hq
    rw [List.getElem_take]
    have := pos_sorted H (x := x) (j := q) (by simp; omega)
    simp only [List.getElem_map] at this
    grind
/-- A node's pairs from x on are those of its kids from the way on. -/
theorem geL_node {x : Ky} {ks : List Ky} {cs : List (Tr V h)} (N : Nd h ks cs) : geL x (cs.flatMap (toL h)) = (cs.drop (way ks x)).flatMap (fun c => geL x (toL h c)) := by
  have hl : way ks x < cs.length := by have := way_le ks x; have := N.1; omega
  conv => lhs; rw [← List.take_append_drop (way ks x) cs]
  rw [List.flatMap_append, geL_app, geL_none, List.nil_append]
  · generalize cs.drop (way ks x) = r
    induction r with
    | nil => rfl
    | cons c r ih => rw [List.flatMap_cons, geL_app, ih, List.flatMap_cons]
  · intro p hp
    obtain ⟨c, hc, hp⟩ := List.mem_flatMap.1 hp
    obtain ⟨q, hq, rfl⟩ := List.getElem_of_mem hc
    rw [List.length_take] at hq
    rw [List.getElem_take] at hp
    have := (N.2.2 q _ (List.getElem?_eq_getElem (by omega))).2 _ (dom_of_toL hp)
    exact lt_of_way (ks := ks) (by omega)
variable {α β : Type} {f : α → List β} {l : List α} {i j n : Nat} {c : α}
theorem scan_more (hc : l[i + j]? = some c) : ((l.drop i).take (j + 1)).flatMap f = ((l.drop i).take j).flatMap f ++ f c := by
  obtain ⟨hi, rfl⟩ := List.getElem?_eq_some_iff.1 hc
  have hj : j < (l.drop i).length := by rw [List.length_drop]; omega
  rw [← List.take_append_getElem hj, List.flatMap_append, List.getElem_drop]; simp
theorem geL_le {x : Ky} {l : List (Ky × V)} : (geL x l).length ≤ l.length := List.length_filter_le ..
theorem scan_room {x : Ky} {cs : List (Tr V h)} {i j : Nat} {c : Tr V h} (hc : cs[i + j]? = some c) : (((cs.drop i).take j).flatMap fun c => geL x (toL h c)).length + (toL h c).length ≤ (cs.flatMap (toL h)).length := by
  have h1 : ∀ l : List (Tr V h), (l.flatMap fun c => geL x (toL h c)).length ≤ (l.flatMap (toL h)).length := fun l => by
    induction l with
    | nil => exact Nat.le_refl _
    | cons a t ih => rw [List.flatMap_cons, List.flatMap_cons, List.length_append, List.length_append]; have := geL_le (x := x) (l := toL h a); omega
  obtain ⟨hl, rfl⟩ := List.getElem?_eq_some_iff.1 hc
  have e : cs = cs.take i ++ ((cs.drop i).take j ++ cs[i + j] :: cs.drop (i + j + 1)) := by
    rw [← List.drop_eq_getElem_cons hl, ← List.drop_drop, List.take_append_drop, List.take_append_drop]
  have h2 := h1 ((cs.drop i).take j)
  have e2 := congrArg (fun l => (l.flatMap (toL h)).length) e
  simp only [List.flatMap_append, List.flatMap_cons, List.length_append] at e2
  omega
theorem scan_le : ((l.take n).flatMap f).length ≤ (l.flatMap f).length := by
  conv => rhs; rw [← List.take_append_drop n l, List.flatMap_append, List.length_append]
  omega
theorem scan_cut (h : n ≤ ((l.take j).flatMap f).length) : (l.flatMap f).take n = ((l.take j).flatMap f).take n := by
  conv => lhs; rw [← List.take_append_drop j l, List.flatMap_append]
  rw [List.take_append_of_le_length h]
end
end Go.Bt

/- Walks, written by a program: what each function of the translation hands back. -/
namespace Go.Proofs.Ytcpfdfejojghbaa
open Go.Gx Go.RowKit
attribute [local irreducible] wpList wpStill Code.wp Calls
open Go.Bt
theorem yieldI {l : List UInt8} {kv : Value} {x : Int} {D : List (DP (Int))} {m : Int} {ob lb B : Nat} {F : Nat → Prop} {w : World} (hA : AccR kI 48 B ob lb m w D F) (hB : B ≤ w.heap.size) (hk : RdC w 0 w.heap.size 1 kv l.length (l.map u8v)) (hkn : l.length ≤ 1000000000) (hD : D.length ≤ 1000000) :
    Ret Try.prog 50 #[(Value.agg #[kv, (Value.int .i64 x)]), ptr ob 0, ptr lb 0] w (fun v' w' => Gr w w' F ∧ v' = .bool (decide (((D.length + 1 : Nat) : Int) < m)) ∧ ∃ kv' F', AccR kI 48 B ob lb m w' (D ++ [(kv', l, x)]) F' ∧ NewF w.heap.size F F') := by
  obtain ⟨h1, h2, h3, ⟨ov, hb, hO, hF⟩, hL, hks, hpw⟩ := hA
  refine (scan1I hB hb hL h3 hO hks hk hkn hD).mono fun v' w' h => ?_
  obtain ⟨E, hv, ov', kv', hb', hO', hks', hL', hm, hfr⟩ := h
  refine ⟨E.mono fun k _ hk => (hF k).2 (hk.elim .inl fun q => .inr (.inr q)), hv, kv', _, ⟨h1, h2, h3, ⟨ov', hb', hO', fun k => Iff.rfl⟩, hL', hks', pw_snoc hpw fun a ha k h q => by have := ((hks a ha).lt k h).2; have := hfr k q; omega⟩, fun k hk => ?_⟩
  rcases hk with hk | hk | hk
  · exact .inl ((hF k).2 (.inl hk))
  · exact .inl ((hF k).2 (.inr (.inl hk)))
  · rcases hm with hm | hm
    · exact .inl ((hF k).2 (.inr (.inr (hm.symm.trans hk))))
    · exact .inr (hm k hk)
end Go.Proofs.Ytcpfdfejojghbaa

/- Walks, written by a program: what each function of the translation hands back. -/
namespace Go.Proofs.Ytcpfdfejojghbaa
open Go.Gx Go.RowKit
attribute [local irreducible] wpList wpStill Code.wp Calls
open Go.Bt
theorem scanLI {x : List UInt8} {xv pv : Value} {D0 D : List (DP (Int))} {lim ob lb B p : Nat} {F : Nat → Prop} {w : World} (hx : Bx w p 115 [pv, .slice none 0 0, .slice none 0 0]) (op : Own w 0 51 2 pv D0.length (D0.flatMap cI)) (ks : ∀ x9 ∈ D0.map pk, Own w 0 5 1 x9.1 x9.2.length (x9.2.map u8v)) (hs : Sorted (kys D0)) (hn : D0.length ≤ 1000) (hop : RdC w 0 B 2 pv D0.length (D0.flatMap cI)) (hks : ∀ x9 ∈ D0.map pk, RdC w 0 B 1 x9.1 x9.2.length (x9.2.map u8v)) (hkl : ∀ x9 ∈ D0.map pk, x9.2.length ≤ 1000000000) (hxr : RdC w 0 B 1 xv x.length (x.map u8v)) (hA : AccR kI 48 B ob lb (lim : Int) w D F) (hB : B ≤ w.heap.size) (hD : D.length < lim) (hlim : lim ≤ 9223372036854775807) (hDM : D.length + D0.length ≤ 100000) : Ret Try.prog 49 #[(ptr p 0), xv, (Value.func (.func 50) #[] #[(ptr ob 0), (ptr lb 0)])] w (fun v' w' => Gr w w' (fun k => B ≤ k) ∧ v' = .bool (decide (D.length + ((D0.drop (pos (kys D0) x)).map Prod.snd).length < lim)) ∧ ∃ D2 F2, AccR kI 48 B ob lb (lim : Int) w' (D ++ D2) F2 ∧ D2.map Prod.snd = ((D0.drop (pos (kys D0) x)).map Prod.snd).take (lim - D.length)) := by
 have hdl : (D0.drop (pos (kys D0) x)).length = D0.length - (pos (kys D0) x) := List.length_drop
 have hpl := pos_leP (D := D0) (x := x)
 have hb := Gr.refl w (fun k => B ≤ k)
 refine enter (N := 56) Try.func49 rfl rfl (by simp) fun a0 hN hd hA => ?_
 have s0 : a0.tmps.getD 0 undef = (ptr p 0) := hA 0 (by simp)
 have s1 : a0.tmps.getD 1 undef = xv := hA 1 (by simp)
 have s2 : a0.tmps.getD 2 undef = (Value.func (.func 50) #[] #[(ptr ob 0), (ptr lb 0)]) := hA 2 (by simp)
 clear hA
 refine seq_any fun K3387 hK3387 => ?_
 refine one_reg ?_
 refine op_assign rfl ?_
 refine reg_nil ?_
 refine hK3387 _ _ ?_
 refine seq_any fun K3388 hK3388 => ?_
 refine seq_any fun K3389 hK3389 => ?_
 refine one_reg ?_
 refine op_move (ev_base hN rfl s0) ?_
 refine op_fn (vs := [(ptr p 0)]) ok81 ⟨(ev_hit hN rfl), trivial⟩ (Ret.flip (leafLI hx op)) ?_
 rintro _ _ ⟨rfl, rfl⟩
 refine reg_nil ?_
 refine hK3389 _ _ ?_
 refine wp_cond_true (ev_hit hN rfl) ?_
 refine seq_any fun K3390 hK3390 => ?_
 refine one_reg ?_
 refine op_move (ev_base hN rfl s0) ?_
 refine op_move (ev_base hN rfl s1) ?_
 refine op_fn (vs := [(ptr p 0), xv]) ok82 ⟨(ev_hit hN rfl), ⟨(ev_hit hN rfl), trivial⟩⟩ (findI hx op ks hs (by omega) (hxr.mono (Nat.zero_le _) (by omega))) ?_
 rintro _ w3391 ⟨E3392, rfl⟩
 have E3392 := grown_of_below E3392
 have z_w3391 := E3392.size
 have hx := hx.keep0 E3392
 have op := op.keep0 E3392
 have ks : ∀ x9 ∈ (D0.map pk), Own w3391 0 5 1 x9.1 x9.2.length (x9.2.map u8v) := fun x9 hx9 => (ks x9 hx9).keep0 E3392
 have hop := hop.keep0 E3392
 have hks : ∀ x9 ∈ (D0.map pk), RdC w3391 0 B 1 x9.1 x9.2.length (x9.2.map u8v) := fun x9 hx9 => (hks x9 hx9).keep0 E3392
 have hxr := hxr.keep0 E3392
 have hA := hA.keepG (Gr.of0 E3392 NoB) (fun _ _ h => h) (NoK.no _)
 have hb := hb.step0 E3392
 refine op_move (ev_hit hN rfl) ?_
 refine op_extract (ev_hit hN rfl) rfl ?_
 refine op_extract (ev_hit hN rfl) rfl ?_
 refine op_assign (ev_hit hN rfl) ?_
 refine op_assign (ev_hit hN rfl) ?_
 refine reg_nil ?_
 refine hK3390 _ _ ?_
 refine seq_any fun K3393 hK3393 => ?_
 refine seq_any fun K3394 hK3394 => ?_
 refine one_reg ?_
 refine op_move (ev_base hN rfl s0) ?_
 refine op_nil (ev_hit hN rfl) ?_
 refine op_field fld115_0 (ev_hit hN rfl) ?_
 refine op_load1 (v := pv) one48 (ev_hit hN rfl) (hx.cell rfl) ?_
 refine op_move (ev_hit hN rfl) ?_
 refine op_slice_rd (lo := ((pos (kys D0) x))) (hi := D0.length) slt48 (ev_hit hN rfl) hop (.inr ⟨_, _, rfl, (ev_hit hN rfl)⟩) (.inl ⟨rfl, rfl⟩) (by omega) (by omega) ?_
 intro v3395 hR3396
 have hR3396 : RdC w3391 0 B 2 v3395 ((D0.drop (pos (kys D0) x)).length) (((D0.drop (pos (kys D0) x))).flatMap cI) := by exact hR3396.cast (by simp) (by rw [flat_drop cI_len, List.take_of_length_le (by rw [flat_len9 cI_len]; simp)])
 refine op_len_rd Try.underlying48 (ev_hit hN rfl) hR3396 ?_
 refine op_move rfl ?_
 refine reg_nil ?_
 refine hK3394 _ _ ?_
 refine wp_block ?_
 refine loop_m (fun mz_ az_ w' => ∃ (i : Nat) (D2 : List (DP (Int))) (FA : Nat → Prop), mz_ = (D0.drop (pos (kys D0) x)).length - i ∧ (az_.tmps.getD 0 undef = (ptr p 0)) ∧ (az_.tmps.getD 1 undef = xv) ∧ (az_.tmps.getD 2 undef = (Value.func (.func 50) #[] #[(ptr ob 0), (ptr lb 0)])) ∧ (az_.tmps.getD 26 undef = v3395) ∧ (az_.tmps.getD 27 undef = (Value.int .i64 ((((D0.drop (pos (kys D0) x)).length) : Nat) : Int))) ∧ (az_.tmps.getD 28 undef = (Value.int .i64 ((i : Nat) : Int))) ∧ (i ≤ (D0.drop (pos (kys D0) x)).length) ∧ (D2.map Prod.snd = ((D0.drop (pos (kys D0) x)).map Prod.snd).take i) ∧ (D2.length = i) ∧ (D.length + i < lim) ∧ (Gr w w' (fun k => B ≤ k)) ∧ (w3391.heap.size ≤ w'.heap.size) ∧ (RdC w' 0 B 2 pv D0.length (D0.flatMap cI)) ∧ (∀ x9 ∈ (D0.map pk), RdC w' 0 B 1 x9.1 x9.2.length (x9.2.map u8v)) ∧ (RdC w' 0 B 1 xv x.length (x.map u8v)) ∧ (RdC w' 0 B 2 v3395 ((D0.drop (pos (kys D0) x)).length) (((D0.drop (pos (kys D0) x))).flatMap cI)) ∧ (AccR kI 48 B ob lb (lim : Int) w' (D ++ D2) FA)) _ hN hd ⟨0, [], F, rfl, (sl_base hN rfl s0), (sl_base hN rfl s1), (sl_base hN rfl s2), (sl_hit hN rfl), (sl_hit hN rfl), (sl_hit hN rfl), (Nat.zero_le _), rfl, rfl, (by omega), hb, (Nat.le_refl _), hop, hks, hxr, hR3396, (by simpa using hA)⟩ ?_
 rintro _ a3397 w3397 hN3397 hd3397 ⟨i, D2, FA, rfl, s3397_0, s3397_1, s3397_2, s3397_26, s3397_27, s3397_28, hi, hD2, hDl, hlt, hb, zl_w3397, hop, hks, hxr, hR3396, hAi⟩
 have z_w3397 := hb.size
 refine seq_any fun K3398 hK3398 => ?_
 refine one_reg ?_
 refine op_lss (ev_base hN3397 rfl s3397_28) (ev_base hN3397 rfl s3397_27) (fun c29 => ?_) (fun c29 => ?_)
 · -- 29T
  refine reg_nil ?_
  refine hK3398 _ _ ?_
  refine seq_any fun K3399 hK3399 => ?_
  refine wp_cond_true (ev_hit hN3397 rfl) ?_
  refine wp_skip ?_
  refine hK3399 _ _ ?_
  refine seq_any fun K3400 hK3400 => ?_
  refine wp_block ?_
  refine seq_any fun K3401 hK3401 => ?_
  refine one_reg ?_
  refine op_index_rd slt48 (ev_base hN3397 rfl s3397_26) hR3396 (ev_base hN3397 rfl s3397_28) (by omega) (by omega) ?_
  intro b3402 o3403 h0b3402 h1b3402 hc3404
  refine op_loadA (cs := [((D0.drop (pos (kys D0) x)).getD i default).1, (Value.int .i64 ((D0.drop (pos (kys D0) x)).getD i default).2.2)]) agg51 rfl (ev_hit hN3397 rfl) (fun j u hu => hc3404 j u (by have := (List.getElem?_eq_some_iff.1 hu).1; simpa using this) ((el_pI (i := i) (by omega) (by first | omega | (simp only [List.length_drop, List.length_take]; omega))) j u hu)) ?_
  refine op_alloc (cs := [(Value.slice none 0 0), (Value.int .i64 0)]) zero51 rfl ?_
  intro w3405 b3406 lo_b3406 hi_b3406 hB3408 E3407
  have dj3409 : ¬ FA b3406 := fun hf => by have := (hAi.lt _ hf).2; omega
  have z_w3405 := E3407.size
  have hop := hop.keep0 E3407
  have hks : ∀ x9 ∈ (D0.map pk), RdC w3405 0 B 1 x9.1 x9.2.length (x9.2.map u8v) := fun x9 hx9 => (hks x9 hx9).keep0 E3407
  have hxr := hxr.keep0 E3407
  have hR3396 := hR3396.keep0 E3407
  have hAi := hAi.keepG (Gr.of0 E3407 NoB) (fun _ _ h => h) (NoK.no _)
  have hb := hb.step0 E3407
  have hB3408_old := hB3408
  refine op_store (vs := [((D0.drop (pos (kys D0) x)).getD i default).1, (Value.int .i64 ((D0.drop (pos (kys D0) x)).getD i default).2.2)]) (cs' := [((D0.drop (pos (kys D0) x)).getD i default).1, (Value.int .i64 ((D0.drop (pos (kys D0) x)).getD i default).2.2)]) size51 (ev_hit hN3397 rfl) (ev_hit hN3397 rfl) rfl rfl (by simp only [List.all_cons, List.all_nil, Bool.true_and, Bool.and_true, (show RdC _ _ _ _ ((D0.drop (pos (kys D0) x)).getD i default).1 _ _ from hks (pk ((D0.drop (pos (kys D0) x)).getD i default)) (List.mem_map.2 ⟨((D0.drop (pos (kys D0) x)).getD i default), (List.mem_of_mem_drop (getD_mem (by first | omega | (simp only [List.length_drop, List.length_take]; omega)))), rfl⟩)).one]; try rfl) hB3408 (Nat.le_of_ble_eq_true rfl) rfl ?_
  intro w3412 hB3408 E3413
  have z_w3412 := E3413.size
  have hop := hop.keep E3413 (fun k hk => .inr (by simp at hk; omega))
  have hks : ∀ x9 ∈ (D0.map pk), RdC w3412 0 B 1 x9.1 x9.2.length (x9.2.map u8v) := fun x9 hx9 => (hks x9 hx9).keep E3413 (fun k hk => .inr (by simp at hk; omega))
  have hxr := hxr.keep E3413 (fun k hk => .inr (by simp at hk; omega))
  have hR3396 := hR3396.keep E3413 (fun k hk => .inr (by simp at hk; omega))
  have hAi := hAi.keepG (Gr.of E3413) (Dj.one dj3409) (NoK.ofBx hB3408_old (by decide))
  have hb := hb.step1 E3413 (by omega)
  refine reg_nil ?_
  refine hK3401 _ _ ?_
  refine seq_any fun K3414 hK3414 => ?_
  refine one_reg ?_
  refine op_move (ev_base hN3397 rfl s3397_2) ?_
  refine op_loadA (cs := [((D0.drop (pos (kys D0) x)).getD i default).1, (Value.int .i64 ((D0.drop (pos (kys D0) x)).getD i default).2.2)]) agg51 rfl (ev_hit hN3397 rfl) (fun j u hu => by rw [Nat.zero_add]; exact hB3408.cell hu) ?_
  refine op_fnv (fs := []) (vs := [(Value.agg #[((D0.drop (pos (kys D0) x)).getD i default).1, (Value.int .i64 ((D0.drop (pos (kys D0) x)).getD i default).2.2)])]) (cs := [(ptr ob 0), (ptr lb 0)]) (ev_hit hN3397 rfl) ok50 ⟨(ev_hit hN3397 rfl), trivial⟩ (yieldI (l := ((D0.drop (pos (kys D0) x)).getD i default).2.1) (x := ((D0.drop (pos (kys D0) x)).getD i default).2.2) hAi (by omega) (((hks _ (List.mem_map.2 ⟨((D0.drop (pos (kys D0) x)).getD i default), List.mem_of_mem_drop (getD_mem (by simp; omega)), rfl⟩))).mono (Nat.le_refl _) (by omega)) ((hkl _ (List.mem_map.2 ⟨((D0.drop (pos (kys D0) x)).getD i default), List.mem_of_mem_drop (getD_mem (by simp; omega)), rfl⟩))) (by simp; omega)) ?_
  rintro _ w3416 ⟨E3417, rfl, kv3415, F2_3415, hA3415, hN3415⟩
  have bd3418 := hB3408.lt
  have hAi_old := hAi
  have z_w3416 := E3417.size
  have hop := hop.keepG E3417 (fun k hk => .inr (by have := hAi_old.lt k hk; omega))
  have hks : ∀ x9 ∈ (D0.map pk), RdC w3416 0 B 1 x9.1 x9.2.length (x9.2.map u8v) := fun x9 hx9 => (hks x9 hx9).keepG E3417 (fun k hk => .inr (by have := hAi_old.lt k hk; omega))
  have hxr := hxr.keepG E3417 (fun k hk => .inr (by have := hAi_old.lt k hk; omega))
  have hR3396 := hR3396.keepG E3417 (fun k hk => .inr (by have := hAi_old.lt k hk; omega))
  have hB3408 := hB3408.keepG E3417 dj3409
  have hb := hb.stepF E3417 (fun k _ h => (hAi_old.lt k h).1)
  have dj3419 : ¬ F2_3415 b3406 := ne_stepF hN3415 bd3418 dj3409
  rcases Bool.eq_false_or_eq_true ((decide (((((D ++ D2)).length + 1 : Nat) : Int) < (lim : Int)))) with c34 | c34
  · -- 34T
   rw [c34]
   refine op_not (ev_hit hN3397 rfl) ?_
   refine reg_nil ?_
   refine hK3414 _ _ ?_
   refine wp_cond_false (ev_hit hN3397 rfl) ?_
   refine wp_skip ?_
   refine hK3400 _ _ ?_
   refine one_reg ?_
   refine op_add (ev_base hN3397 rfl s3397_28) rfl (add64 (by omega)) ?_
   refine op_move (ev_hit hN3397 rfl) ?_
   refine reg_nil ?_
   -- round 29T 34T
   exact loop_next _ hN3397 hd3397 ⟨(i + 1), (D2 ++ [(kv3415, ((D0.drop (pos (kys D0) x)).getD i default).2.1, ((D0.drop (pos (kys D0) x)).getD i default).2.2)]), F2_3415, rfl, (sl_base hN3397 rfl s3397_0), (sl_base hN3397 rfl s3397_1), (sl_base hN3397 rfl s3397_2), (sl_base hN3397 rfl s3397_26), (sl_base hN3397 rfl s3397_27), (sl_hit hN3397 rfl).trans (congrArg (Value.int .i64) (by omega)), (by omega), (by rw [List.map_append, hD2, take9 (d := default) (by simp; omega), getD_map9 (by omega)]; rfl), (by rw [List.length_append, hDl]; rfl), (by have h9 := of_decide_eq_true c34; simp only [List.length_append, hDl] at h9; omega), hb, (by omega), hop, hks, hxr, hR3396, (by simpa using hA3415)⟩ (by omega)
  · -- 34F
   rw [c34]
   refine op_not (ev_hit hN3397 rfl) ?_
   refine reg_nil ?_
   refine hK3414 _ _ ?_
   refine wp_cond_true (ev_hit hN3397 rfl) ?_
   refine seq_any fun K3420 hK3420 => ?_
   refine one_reg ?_
   refine op_assign rfl ?_
   refine reg_nil ?_
   refine hK3420 _ _ ?_
   refine wp_ret (blk_ret (then_ret (then_ret (blk_ret (then_ret (then_ret ( ?_)))))))
   refine ret1 rfl hd3397 (ev_hit hN3397 rfl) ⟨_, rfl, ?_⟩
   -- path 29T 34F
   have h9 := of_decide_eq_false c34
   simp only [List.length_append, hDl] at h9
   exact ⟨hb, congrArg Value.bool (decide_eq_false (by rw [List.length_map]; omega)).symm, D2 ++ [(kv3415, ((D0.drop (pos (kys D0) x)).getD i default).2.1, ((D0.drop (pos (kys D0) x)).getD i default).2.2)], F2_3415, by simpa using hA3415, by rw [show lim - D.length = i + 1 by omega, List.map_append, hD2, take9 (d := default) (by simp; omega), getD_map9 (by omega)]; rfl⟩
 · -- 29F
  refine reg_nil ?_
  refine hK3398 _ _ ?_
  refine seq_any fun K3421 hK3421 => ?_
  refine wp_cond_false (ev_hit hN3397 rfl) ?_
  refine wp_exit (then_exit (then_exit (blk_hit ?_)))
  refine hK3393 _ _ ?_
  refine seq_any fun K3422 hK3422 => ?_
  refine one_reg ?_
  refine op_assign rfl ?_
  refine reg_nil ?_
  refine hK3422 _ _ ?_
  refine wp_ret (then_ret ( ?_))
  refine ret1 rfl hd3397 (ev_hit hN3397 rfl) ⟨_, rfl, ?_⟩
  -- path 29F
  exact ⟨hb, congrArg Value.bool (decide_eq_true (by rw [List.length_map]; omega)).symm, D2, FA, hAi, by rw [hD2, List.take_of_length_le (by simp; omega), List.take_of_length_le (by simp; omega)]⟩

end Go.Proofs.Ytcpfdfejojghbaa

/- Walks, written by a program: what each function of the translation hands back. -/
namespace Go.Proofs.Ytcpfdfejojghbaa
open Go.Gx Go.RowKit
attribute [local irreducible] wpList wpStill Code.wp Calls
open Go.Bt
def ScanI (h : Nat) : Prop := ∀ ⦃x : List UInt8⦄ ⦃xv : Value⦄ ⦃p ob lb B lim : Nat⦄ ⦃t : Tr (Int) h⦄ ⦃R W F : Nat → Prop⦄ ⦃D : List (DP (Int))⦄ ⦃w : World⦄, TreeR kI R w h p t W → Ok h t → szT h t ≤ 6 → (∀ k, W k → k < B) → (∀ k, R k → k < B) → (∀ q ∈ toL h t, q.1.length ≤ 1000000000) → RdC w 0 B 1 xv x.length (x.map u8v) → AccR kI 48 B ob lb (lim : Int) w D F → B ≤ w.heap.size → D.length < lim → lim ≤ 9223372036854775807 → D.length + (toL h t).length ≤ 100000 →
  Ret Try.prog 49 #[ptr p 0, xv, .func (.func 50) #[] #[ptr ob 0, ptr lb 0]] w (fun v' w' => Gr w w' (fun k => B ≤ k) ∧ v' = .bool (decide (D.length + (geL x (toL h t)).length < lim)) ∧ ∃ D2 F2, AccR kI 48 B ob lb (lim : Int) w' (D ++ D2) F2 ∧ D2.map Prod.snd = (geL x (toL h t)).take (lim - D.length))
theorem scan0I : ScanI 0 := by
  intro x xv p ob lb B lim t R W F D w T hO h6 hW hR hkl hxr hA hB hD hlim hDM
  obtain ⟨pv, D0, hL, e⟩ := T
  have e' : (D0.map Prod.snd : List (Ky × (Int))) = t := e
  subst e'
  have h6' : D0.length ≤ 6 := by have h9 : (D0.map Prod.snd).length ≤ 6 := h6; simpa using h9
  have hs : Sorted (kys D0) := hO
  have hg : geL x (toL 0 ((D0.map Prod.snd : List (Ky × (Int))) : Tr (Int) 0)) = (D0.drop (pos (kys D0) x)).map Prod.snd := (geL_leaf (show Sorted ((D0.map Prod.snd).map Prod.fst) from hs)).trans (by rw [List.map_drop]; rfl)
  rw [hg]
  exact scanLI hL.bx hL.op hL.ks hs (by omega) ((hL.op.rd fun k hk => hW k (hL.wv k hk)).mono (Nat.zero_le _) (Nat.le_refl _)) (fun x9 hx9 => ((hL.ks x9 hx9).rd fun k hk => hR k (hL.kr x9 hx9 k hk))) (fun x9 hx9 => by
    obtain ⟨d, hd, rfl⟩ := List.mem_map.1 hx9
    exact hkl d.2 (List.mem_map.2 ⟨d, hd, rfl⟩)) hxr hA hB hD hlim (by have h9 : D.length + (D0.map Prod.snd).length ≤ 100000 := hDM; simpa using h9)
end Go.Proofs.Ytcpfdfejojghbaa
