/- A map's keys, sorted: the library's contracts, laid at this program (heaps). -/
import Derived.Shelf.SlIterI.Nil
import Derived.Shelf.SortM.Plain
import Derived.Shelf.SortM.SortNone
import Derived.Lib.SlKeysI
import Derived.Sort.AssemblyPlain
import Derived.RangeFuncGives
import Derived.Maps.AppendAt
import Derived.Sort.MapsRangeIn
import Derived.Sort.KeysCollected
import Derived.WalkKit
import Derived.OwnWalkIn
import Derived.TacticsInMore
import Derived.RegionIn
import Derived.LoopNIn
import Derived.LoopIn
import Derived.Shelf.Abstract
import Derived.Test.YtdhpalioifjfbaaB2
set_option linter.unusedVariables false
set_option linter.unusedSimpArgs false

namespace Go.Proofs.Ytdhpalioifjfbaa
open Go.Gx Go.RowKit Go.Maps Go.Sort Go.Shelf Go.Proofs
def keysA_ren : Go.Shelf.Ren := ⟨fun | 7 => 55 | 10 => 61 | n => n, fun | 23 => 68 | 26 => 3 | 3 => 24 | 28 => 93 | 0 => 0 | 27 => 92 | 33 => 44 | 4 => 4 | n => n, fun | n => n⟩
theorem keysA : Go.Proofs.SlLaysZI.n7 Try.prog keysA_ren where
  mixed := by kernel_rfl
  f7 := ⟨Try.f55.name, by decide, Try.func55.trans (congrArg some (by kernel_rfl))⟩
  f10 := ⟨Try.f61.name, by decide, Try.func61.trans (congrArg some (by kernel_rfl))⟩
  t0 := Try.underlying0
  a0 := Try.isAgg0
  z0 := Try.sizeOf0
  v0 := Try.zeroValue0
  t4 := Try.underlying4
  a4 := Try.isAgg4
  z4 := Try.sizeOf4
  v4 := Try.zeroValue4
  t23 := Try.underlying68
  a23 := Try.isAgg68
  z23 := Try.sizeOf68
  v23 := Try.zeroValue68
  t26 := Try.underlying3
  a26 := Try.isAgg3
  z26 := Try.sizeOf3
  v26 := Try.zeroValue3
  t27 := Try.underlying92
  a27 := Try.isAgg92
  z27 := Try.sizeOf92
  v27 := Try.zeroValue92
  t28 := Try.underlying93
  a28 := Try.isAgg93
  z28 := Try.sizeOf93
  v28 := Try.zeroValue93
  t33 := Try.underlying44
  a33 := Try.isAgg44
  z33 := Try.sizeOf44
  v33 := Try.zeroValue44
def sortedA_ren : Go.Shelf.Ren := ⟨fun | 6 => 54 | 8 => 59 | 9 => 60 | 11 => 65 | 13 => 64 | 12 => 66 | 23 => 76 | 24 => 77 | 14 => 78 | 15 => 79 | 16 => 80 | 17 => 81 | 18 => 82 | 19 => 83 | 20 => 84 | 21 => 85 | 22 => 86 | 25 => 93 | 26 => 88 | 27 => 89 | 28 => 94 | 29 => 95 | 30 => 96 | 31 => 98 | n => n, fun | 26 => 3 | 28 => 93 | 24 => 29 | 0 => 0 | 3 => 3 | 37 => 90 | 48 => 113 | 50 => 57 | 4 => 4 | 40 => 105 | 39 => 104 | 45 => 110 | 5 => 5 | 9 => 9 | 51 => 121 | 55 => 125 | 57 => 129 | 58 => 130 | 33 => 44 | n => n, fun | n => n⟩
theorem sortedA : Go.Proofs.SlLaysZI.n6 Try.prog sortedA_ren where
  mixed := by kernel_rfl
  f6 := ⟨Try.f54.name, by decide, Try.func54.trans (congrArg some (by kernel_rfl))⟩
  f8 := ⟨Try.f59.name, by decide, Try.func59.trans (congrArg some (by kernel_rfl))⟩
  f11 := ⟨Try.f65.name, by decide, Try.func65.trans (congrArg some (by kernel_rfl))⟩
  t0 := Try.underlying0
  a0 := Try.isAgg0
  z0 := Try.sizeOf0
  v0 := Try.zeroValue0
  t24 := Try.underlying29
  a24 := Try.isAgg29
  z24 := Try.sizeOf29
  v24 := Try.zeroValue29
  t26 := Try.underlying3
  a26 := Try.isAgg3
  z26 := Try.sizeOf3
  v26 := Try.zeroValue3
  t28 := Try.underlying93
  a28 := Try.isAgg93
  z28 := Try.sizeOf93
  v28 := Try.zeroValue93
  i26 := by kernel_rfl
def sortA_ren : Go.Shelf.Ren := ⟨fun | 5 => 60 | 8 => 64 | 7 => 66 | 19 => 76 | 20 => 77 | 10 => 78 | 11 => 79 | 12 => 80 | 13 => 81 | 14 => 82 | 15 => 83 | 16 => 84 | 17 => 85 | 18 => 86 | 30 => 93 | 31 => 88 | 32 => 89 | 33 => 94 | 34 => 95 | 35 => 96 | 40 => 98 | n => n, fun | 23 => 29 | 25 => 3 | 3 => 3 | 32 => 90 | 22 => 29 | 0 => 0 | 44 => 113 | 46 => 57 | 4 => 4 | 36 => 105 | 35 => 104 | 41 => 110 | 5 => 5 | 9 => 9 | 53 => 121 | 57 => 125 | 63 => 129 | 64 => 130 | n => n, fun | n => n⟩
theorem sortA : Go.Proofs.SlLaysM.n5 Try.prog sortA_ren where
  mixed := by kernel_rfl
  f5 := ⟨Try.f60.name, by decide, Try.func60.trans (congrArg some (by kernel_rfl))⟩
  f7 := ⟨Try.f66.name, by decide, Try.func66.trans (congrArg some (by kernel_rfl))⟩
  f8 := Try.func64.trans (congrArg some (by kernel_rfl))
  f10 := ⟨Try.f78.name, by decide, Try.func78.trans (congrArg some (by kernel_rfl))⟩
  f11 := ⟨Try.f79.name, by decide, Try.func79.trans (congrArg some (by kernel_rfl))⟩
  f12 := ⟨Try.f80.name, by decide, Try.func80.trans (congrArg some (by kernel_rfl))⟩
  f13 := ⟨Try.f81.name, by decide, Try.func81.trans (congrArg some (by kernel_rfl))⟩
  f14 := ⟨Try.f82.name, by decide, Try.func82.trans (congrArg some (by kernel_rfl))⟩
  f15 := ⟨Try.f83.name, by decide, Try.func83.trans (congrArg some (by kernel_rfl))⟩
  f16 := ⟨Try.f84.name, by decide, Try.func84.trans (congrArg some (by kernel_rfl))⟩
  f17 := ⟨Try.f85.name, by decide, Try.func85.trans (congrArg some (by kernel_rfl))⟩
  f18 := ⟨Try.f86.name, by decide, Try.func86.trans (congrArg some (by kernel_rfl))⟩
  f19 := Try.func76.trans (congrArg some (by kernel_rfl))
  f20 := Try.func77.trans (congrArg some (by kernel_rfl))
  f30 := ⟨Try.f93.name, by decide, Try.func93.trans (congrArg some (by kernel_rfl))⟩
  f31 := Try.func88.trans (congrArg some (by kernel_rfl))
  f32 := Try.func89.trans (congrArg some (by kernel_rfl))
  f33 := ⟨Try.f94.name, by decide, Try.func94.trans (congrArg some (by kernel_rfl))⟩
  f34 := ⟨Try.f95.name, by decide, Try.func95.trans (congrArg some (by kernel_rfl))⟩
  f35 := ⟨Try.f96.name, by decide, Try.func96.trans (congrArg some (by kernel_rfl))⟩
  f40 := ⟨Try.f98.name, by decide, Try.func98.trans (congrArg some (by kernel_rfl))⟩
  t0 := Try.underlying0
  a0 := Try.isAgg0
  z0 := Try.sizeOf0
  v0 := Try.zeroValue0
  t3 := Try.underlying3
  a3 := Try.isAgg3
  z3 := Try.sizeOf3
  v3 := Try.zeroValue3
  t4 := Try.underlying4
  a4 := Try.isAgg4
  z4 := Try.sizeOf4
  v4 := Try.zeroValue4
  t5 := Try.underlying5
  a5 := Try.isAgg5
  z5 := Try.sizeOf5
  v5 := Try.zeroValue5
  t9 := Try.underlying9
  a9 := Try.isAgg9
  z9 := Try.sizeOf9
  v9 := Try.zeroValue9
  t22 := Try.underlying29
  a22 := Try.isAgg29
  z22 := Try.sizeOf29
  v22 := Try.zeroValue29
  t23 := Try.underlying29
  a23 := Try.isAgg29
  z23 := Try.sizeOf29
  v23 := Try.zeroValue29
  t25 := Try.underlying3
  a25 := Try.isAgg3
  z25 := Try.sizeOf3
  v25 := Try.zeroValue3
  t32 := Try.underlying90
  a32 := Try.isAgg90
  z32 := Try.sizeOf90
  v32 := Try.zeroValue90
  t35 := Try.underlying104
  a35 := Try.isAgg104
  z35 := Try.sizeOf104
  v35 := Try.zeroValue104
  t36 := Try.underlying105
  a36 := Try.isAgg105
  z36 := Try.sizeOf105
  v36 := Try.zeroValue105
  t41 := Try.underlying110
  a41 := Try.isAgg110
  z41 := Try.sizeOf110
  v41 := Try.zeroValue110
  t44 := Try.underlying113
  a44 := Try.isAgg113
  z44 := Try.sizeOf113
  v44 := Try.zeroValue113
  t46 := Try.underlying57
  a46 := Try.isAgg57
  z46 := Try.sizeOf57
  v46 := Try.zeroValue57
  t53 := Try.underlying121
  a53 := Try.isAgg121
  z53 := Try.sizeOf121
  v53 := Try.zeroValue121
  t57 := Try.underlying125
  a57 := Try.isAgg125
  z57 := Try.sizeOf125
  v57 := Try.zeroValue125
  t63 := Try.underlying129
  a63 := Try.isAgg129
  z63 := Try.sizeOf129
  v63 := Try.zeroValue129
  t64 := Try.underlying130
  a64 := Try.isAgg130
  z64 := Try.sizeOf130
  v64 := Try.zeroValue130
theorem sortsA (m : Nat) : AnyZI.SortsIn Try.prog sortedA_ren Fence.wide m :=
  ⟨fun blk off cap ss W hH hblk hsz => callsIn_wide.2 (AnyM.slices_Sort_int sortA blk off cap ss W hH hblk hsz),
   fun p cap W => callsIn_wide.2 (AnyM.slices_Sort_int_none sortA p cap W)⟩
theorem own_of_row {w : World} {base e sz n : Nat} {v : Value} {cs : List Value} (h : w.ownsRow base e sz v n cs) : Own w base e sz v n cs := by
  obtain ⟨hl, h⟩ := h
  refine ⟨hl, ?_⟩
  rcases h with h | ⟨g, cap, cur, rfl, hb, hg, h1, h2, h3, h4⟩
  · exact .inl h
  · exact .inr ⟨g, 0, cap, cur, (0, 0), rfl, hb, hg, fun j _ hj => by omega, h1, h2, by omega, by simpa using h4⟩
def anyR (_ : Value) : Option (DataW Nat × List MemPlace) := some (.lit (.bool true), [])
def keysUp (es : List (Int × Nat)) : List Int := (es.map Prod.fst).mergeSort (fun x y => decide (x ≤ y))
theorem map_own {w : World} {m : Nat} {es : List (Int × Nat)} {pv : Nat → Value} (hM : MapC (Value.int .i64) pv w m es) (hk : ∀ p ∈ es, (Lit.int .i64 p.1).wf = true) (hn : es.length ≤ 1000000) :
    ∃ D0 : DataW Nat, w.ownsMap Try.prog 3 anyR m es.length D0 ∧ Maps.size D0 = es.length ∧ (intKeys D0).Perm (es.map Prod.fst) := by
  obtain ⟨arr, clock, hb, hs, he⟩ := hM
  have hlen : arr.size = es.length := by have := congrArg List.length he; simpa using this
  have hkey : ∀ x ∈ arr.toList, ∃ p ∈ es, x.key = Value.int .i64 p.1 := by
    intro x hx
    have h1 := congrArg (List.map Prod.fst) he
    simp only [List.map_map] at h1
    have h2 : x.key ∈ es.map ((Prod.fst : Value × Value → Value) ∘ fun p => (Value.int .i64 p.1, pv p.2)) := by
      rw [← h1]; exact List.mem_map.2 ⟨x, hx, rfl⟩
    obtain ⟨p, hp, he2⟩ := List.mem_map.1 h2
    exact ⟨p, hp, he2.symm⟩
  have hrd : ∀ x ∈ arr.toList, ∀ a : Int, x.key = Value.int .i64 a → WideElems.rd Try.prog 3 anyR x = some (.int .i64 a, .lit (.bool true)) := by
    intro x hx a ha
    obtain ⟨p, hp, hp2⟩ := hkey x hx
    have : a = p.1 := by rw [ha] at hp2; injection hp2
    subst this
    have h3 : keyOf Try.prog 3 x.key = some (.int .i64 p.1) := by rw [ha]; exact keyOf_int_mk Try.underlying3 (hk p hp)
    unfold WideElems.rd anyR
    rw [h3]; rfl
  have F : WideElems.Fit Try.prog 3 anyR arr clock := ⟨by rw [hlen]; unfold maxLen; omega, hs, fun x hx => by
    obtain ⟨p, hp, hp2⟩ := hkey x hx
    exact ⟨_, hrd x hx _ hp2⟩⟩
  refine ⟨_, ⟨arr, clock, hb, F, by omega, rfl⟩, ?_, ?_⟩
  · rw [Maps.size_eq, length_sorted]; simp [hlen]
  · show (((arr.toList.map (WideElems.rg Try.prog 3 anyR)).foldr DataW.insert []).map fun (p : Lit × DataW Nat) => Go.intOf p.1).Perm _
    refine ((Go.WideShapes.sorted_perm _).map _).trans ?_
    rw [List.map_map]
    have : arr.toList.map ((fun p : Lit × DataW Nat => Go.intOf p.1) ∘ WideElems.rg Try.prog 3 anyR) = es.map Prod.fst := by
      have h1 := congrArg (List.map Prod.fst) he
      simp only [List.map_map] at h1
      have h4 : (arr.toList.map fun e => e.key) = (es.map Prod.fst).map (Value.int .i64) := by rw [List.map_map]; exact h1
      have h5 : arr.toList.map ((fun p : Lit × DataW Nat => Go.intOf p.1) ∘ WideElems.rg Try.prog 3 anyR) = arr.toList.map fun e => match e.key with | .int _ a => a | _ => 0 := by
        apply List.map_congr_left
        intro x hx
        obtain ⟨p, hp, hp2⟩ := hkey x hx
        simp only [Function.comp]
        rw [WideElems.rg_of (hrd x hx _ hp2), hp2]; rfl
      rw [h5]
      have h6 : (arr.toList.map fun e => match e.key with | .int _ a => a | _ => 0) = (arr.toList.map fun e => e.key).map fun v => match v with | .int _ a => a | _ => 0 := by rw [List.map_map]; rfl
      rw [h6, h4, List.map_map]
      apply List.ext_getElem?
      intro i
      simp only [List.getElem?_map]
      cases (es[i]?) <;> rfl
    rw [this]
theorem sortedKeys_ret {w : World} {m b t : Nat} {es : List (Int × Nat)} {pv : Nat → Value} (hM : MapC (Value.int .i64) pv w m es) (hk : ∀ p ∈ es, (Lit.int .i64 p.1).wf = true) (hn : es.length ≤ 1000000) (hB : Bx w b t [.map (some m)]) :
    Ret Try.prog 54 #[.func (.func 61) #[] #[ptr b 0]] w (fun v' w' => Below w.heap.size w w' ∧ Own w' w.heap.size 3 1 v' (keysUp es).length ((keysUp es).map (Value.int .i64))) := by
  obtain ⟨D0, hown, hsz, hp⟩ := map_own hM hk hn
  refine (callsIn_wide (n := 5)).1 ?_
  have hseq : SeqGives Fence.wide 2 Try.prog 61 #[.pointer (some ⟨b, 0, none⟩)] encZ (fun ss => ss.Perm (intKeys D0)) (Maps.size D0) w :=
    AnyZI.keys_gives (ρ := keysA_ren) { keysA with } Fence.wide _ trivial rfl (by omega) b m es.length D0 _ hB.lt (hB.cell rfl) hown
  have cS := AnyZI.sorted_in sortedA Fence.wide 5 trivial trivial trivial trivial rfl (by omega) (sortsA _) (enters_of Try.func60 (by kernel_rfl) rfl) 61 #[.pointer (some ⟨b, 0, none⟩)] trivial (enters_of Try.func61 (by kernel_rfl) rfl) _ _ (by rw [hsz]; unfold maxLen; omega) (by rw [hsz]; omega) _ hseq
  change CallsIn _ _ Try.prog 54 _ _ _ at cS
  refine cS.mono ?_
  rintro e w' ⟨v, ss, rfl, hS, hrow, hnil, hb⟩
  refine ⟨v, rfl, hb, ?_⟩
  have e1 : ss.mergeSort (fun x y => decide (x ≤ y)) = keysUp es := mergeSort_of_perm_i (hS.trans hp)
  have e2 : ss.length = (keysUp es).length := by rw [← e1, List.length_mergeSort]
  have := own_of_row hrow
  rw [e1, e2] at this
  exact this
theorem sortedNil_ret {w : World} {b t : Nat} (hB : Bx w b t [.map none]) :
    Ret Try.prog 54 #[.func (.func 61) #[] #[ptr b 0]] w (fun v' w' => Below w.heap.size w w' ∧ Own w' w.heap.size 3 1 v' 0 []) := by
  refine (callsIn_wide (n := 5)).1 ?_
  have hseq : SeqGives Fence.wide 2 Try.prog 61 #[.pointer (some ⟨b, 0, none⟩)] encZ (fun ss : List Int => ss = []) 0 w := AnyZI.keys_gives_nil (ρ := keysA_ren) { keysA with } Fence.wide 2 trivial rfl b w hB.lt (hB.cell rfl)
  have cS := AnyZI.sorted_in sortedA Fence.wide 5 trivial trivial trivial trivial rfl (by omega) (sortsA _) (enters_of Try.func60 (by kernel_rfl) rfl) 61 #[.pointer (some ⟨b, 0, none⟩)] trivial (enters_of Try.func61 (by kernel_rfl) rfl) (fun ss : List Int => ss = []) 0 (by unfold maxLen; omega) (by omega) w hseq
  change CallsIn _ _ Try.prog 54 _ _ _ at cS
  refine cS.mono ?_
  rintro e w' ⟨v, ss, rfl, hS, hrow, hnil, hb⟩
  refine ⟨v, rfl, hb, ?_⟩
  have e2 : ss = [] := by simpa using hS
  subst e2
  have h9 := own_of_row hrow
  rw [show ([] : List Int).mergeSort (fun x y => decide (x ≤ y)) = [] from by simp] at h9
  exact h9
end Go.Proofs.Ytdhpalioifjfbaa

namespace Go.Proofs.Ytdhpalioifjfbaa
open Go.Gx Go.RowKit
theorem pa_put {base p : Nat} {z : Int} {P : PM} {ps : List Nat} {L : List By} {F : Nat → Prop} {w : World} (hA : PgAll w base P ps F) (hg : mget P z = some L) (hp : mget (esP P ps) z = some p) (hbase : base ≤ w.heap.size) {r : By} {bv : Value} {Lo Bo : Nat} (hbr : RdC w Lo Bo 1 bv r.length (r.map u8v)) (hap : ∀ x, F x → x < Lo ∨ Bo ≤ x) (hBw : Bo ≤ w.heap.size)  : Ret Try.prog 11 #[ptr p 0, bv] w (fun v' w' => Gr w w' F ∧ v' = .tuple #[.int .i64 (putK L r), .int .i64 (putE L r)] ∧ ∃ F', PgAll w' base (mput P z (putN L r)) ps F' ∧ NewF w.heap.size F F') := by
  obtain ⟨p', F1, hp', hP, hin, turn⟩ := hA.key hg
  obtain rfl : p' = p := Option.some.inj (hp'.symm.trans hp)
  refine (pg_put hP hbase hbr (fun x hx => hap x (hin x hx)) hBw).mono fun v' w' q => ?_
  obtain ⟨E, hv, F2, hP2, hN⟩ := q
  obtain ⟨E2, F', hA', hN'⟩ := turn w' _ F2 E hP2 hN
  exact ⟨E2, hv, F', hA', hN'⟩
theorem pa_set {base p : Nat} {z : Int} {P : PM} {ps : List Nat} {L : List By} {F : Nat → Prop} {w : World} (hA : PgAll w base P ps F) (hg : mget P z = some L) (hp : mget (esP P ps) z = some p) (hbase : base ≤ w.heap.size) {r : By} {bv : Value} {Lo Bo : Nat} (hbr : RdC w Lo Bo 1 bv r.length (r.map u8v)) (hap : ∀ x, F x → x < Lo ∨ Bo ≤ x) (hBw : Bo ≤ w.heap.size) (k : Int) (hk : -9223372036854775808 ≤ k ∧ k ≤ 9223372036854775807)  : Ret Try.prog 20 #[ptr p 0, .int .i64 k, bv] w (fun v' w' => Gr w w' F ∧ v' = .int .i64 (setE L k r) ∧ ∃ F', PgAll w' base (mput P z (setN L k r)) ps F' ∧ NewF w.heap.size F F') := by
  obtain ⟨p', F1, hp', hP, hin, turn⟩ := hA.key hg
  obtain rfl : p' = p := Option.some.inj (hp'.symm.trans hp)
  refine (pg_set hP hbase hbr (fun x hx => hap x (hin x hx)) hBw k hk).mono fun v' w' q => ?_
  obtain ⟨E, hv, F2, hP2, hN⟩ := q
  obtain ⟨E2, F', hA', hN'⟩ := turn w' _ F2 E hP2 hN
  exact ⟨E2, hv, F', hA', hN'⟩
theorem pa_drop {base p : Nat} {z : Int} {P : PM} {ps : List Nat} {L : List By} {F : Nat → Prop} {w : World} (hA : PgAll w base P ps F) (hg : mget P z = some L) (hp : mget (esP P ps) z = some p) (hbase : base ≤ w.heap.size) (k : Int) (hk : -9223372036854775808 ≤ k ∧ k ≤ 9223372036854775807)  : Ret Try.prog 13 #[ptr p 0, .int .i64 k] w (fun v' w' => Gr w w' F ∧ v' = .int .i64 (dropE L k) ∧ ∃ F', PgAll w' base (mput P z (dropN L k)) ps F' ∧ NewF w.heap.size F F') := by
  obtain ⟨p', F1, hp', hP, hin, turn⟩ := hA.key hg
  obtain rfl : p' = p := Option.some.inj (hp'.symm.trans hp)
  refine (pg_drop hP hbase k hk).mono fun v' w' q => ?_
  obtain ⟨E, hv, F2, hP2, hN⟩ := q
  obtain ⟨E2, F', hA', hN'⟩ := turn w' _ F2 E hP2 hN
  exact ⟨E2, hv, F', hA', hN'⟩
theorem pa_slots {base p : Nat} {z : Int} {P : PM} {ps : List Nat} {L : List By} {F : Nat → Prop} {w : World} (hA : PgAll w base P ps F) (hg : mget P z = some L) (hp : mget (esP P ps) z = some p) (hbase : base ≤ w.heap.size)  : Ret Try.prog 12 #[ptr p 0] w (fun v' w' => Gr w w' F ∧ Own w' w.heap.size 3 1 v' (slotsI L L.length).length ((slotsI L L.length).map (Value.int .i64)) ∧ ∃ F', PgAll w' base (mput P z (L)) ps F' ∧ NewF w.heap.size F F') := by
  obtain ⟨p', F1, hp', hP, hin, turn⟩ := hA.key hg
  obtain rfl : p' = p := Option.some.inj (hp'.symm.trans hp)
  refine (pg_slots hP hbase ).mono fun v' w' q => ?_
  obtain ⟨E, hv, F2, hP2, hN⟩ := q
  obtain ⟨E2, F', hA', hN'⟩ := turn w' _ F2 E hP2 hN
  exact ⟨E2, hv, F', hA', hN'⟩
theorem pa_get {base p : Nat} {z : Int} {P : PM} {ps : List Nat} {L : List By} {F : Nat → Prop} {w : World} (hA : PgAll w base P ps F) (hg : mget P z = some L) (hp : mget (esP P ps) z = some p) (hbase : base ≤ w.heap.size) (k : Int) (hk : -9223372036854775808 ≤ k ∧ k ≤ 9223372036854775807)  : Ret Try.prog 15 #[ptr p 0, .int .i64 k] w (fun v' w' => Gr w w' F ∧ ∃ x, v' = .tuple #[x, .int .i64 (dropE L k)] ∧ Own w' w.heap.size 5 1 x (getL L k).length ((getL L k).map u8v) ∧ ∃ F', PgAll w' base (mput P z (L)) ps F' ∧ NewF w.heap.size F F') := by
  obtain ⟨p', F1, hp', hP, hin, turn⟩ := hA.key hg
  obtain rfl : p' = p := Option.some.inj (hp'.symm.trans hp)
  refine (pg_get hP hbase k hk).mono fun v' w' q => ?_
  obtain ⟨E, x, hv, hO, F2, hP2, hN⟩ := q
  obtain ⟨E2, F', hA', hN'⟩ := turn w' _ F2 E hP2 hN
  exact ⟨E2, x, hv, hO, F', hA', hN'⟩
end Go.Proofs.Ytdhpalioifjfbaa

namespace Go.Proofs.Ytdhpalioifjfbaa
open Go.Gx Go.RowKit
attribute [local irreducible] wpList wpStill Code.wp Calls

theorem HNew_ret (w : World) : Ret Try.prog 27 #[] w (fun v' w' => Below w.heap.size w w' ∧ ∃ k, v' = ptr k 0 ∧ w.heap.size ≤ k ∧ Bx w' k 71 [.map none, .int .i64 0, .map none]) := by
 have hb := Below.refl w.heap.size w
 refine enter (N := 3) Try.func27 rfl rfl (by simp) fun a hN hd hA => ?_
 clear hA
 refine zF fun _ a => zH (zD rfl (zB (a _ _ (zF fun _ a => zH (zf (pv := []) (v := (Value.agg #[(Value.map none), (.int .i64 0), (Value.map none)])) trivial zy (op_box (cs := [(Value.map none), (.int .i64 0), (Value.map none)]) (zA hN rfl) rfl ?_))))))
 intro e g c f d b
 obtain ⟨hb, _⟩ := yE hb b
 refine zD (zA hN rfl) (zB (a _ _ (wp_ret (ret1 rfl hd (zA hN rfl) ⟨_, rfl, ?_⟩))))
 exact ⟨hb, _, rfl, c, d⟩

theorem HLen_m {base k pm mm : Nat} {P : PM} {ps : List Nat} {M : AM} {nx : Int} {F0 : Nat → Prop} {w : World} (hbase : base ≤ w.heap.size) (hk : Bx w k 71 [.map (some pm), .int .i64 nx, .map (some mm)]) (hA : PgAll w base P ps F0) (hPm : MapC (.int .i64) pv w pm (esP P ps)) (hMm : MapC (.int .u64) plv w mm M) (hne : pm ≠ mm)  : Ret Try.prog 31 #[(ptr k 0)] w (fun v' w' => Below w.heap.size w w' ∧ v' = .int .i64 (M.length : Int)) := by
 have hi_k := hk.lt
 have hi_pm := hPm.lt
 have hi_mm := hMm.lt
 have djk := hA.notBx hk zz zz
 have djp := hA.notMap hPm
 have djm := hA.notMap hMm
 have hb := Below.refl w.heap.size w
 refine enter (N := 10) Try.func31 rfl rfl (by simp) fun a hN hd hA => ?_
 have b : a.tmps.getD 0 undef = (ptr k 0) := hA 0 (by simp)
 clear hA
 refine zF fun _ a => zH (zD rfl (zB (a _ _ (zF fun _ a => zF fun _ c => zH (zG (zC hN rfl b) (op_peq_some ptrt53 (zA hN rfl) rfl (zB ?_)))))))
 refine c _ _ (wp_cond_false (zA hN rfl) (wp_skip (a _ _ (zF fun _ a => zH (zG (zC hN rfl b) (op_nil (zA hN rfl) (zM fld71_2 (zA hN rfl) (zN one69 (zA hN rfl) (hk.cell rfl) (op_len_map Try.underlying69 (zA hN rfl) hMm (zD (zA hN rfl) (zB (a _ _ (wp_ret (ret1 rfl hd (zA hN rfl) ⟨_, rfl, ?_⟩))))))))))))))
 exact ⟨hb, rfl⟩

theorem HPages_m {base k pm mm : Nat} {P : PM} {ps : List Nat} {M : AM} {nx : Int} {F0 : Nat → Prop} {w : World} (hbase : base ≤ w.heap.size) (hk : Bx w k 71 [.map (some pm), .int .i64 nx, .map (some mm)]) (hA : PgAll w base P ps F0) (hPm : MapC (.int .i64) pv w pm (esP P ps)) (hMm : MapC (.int .u64) plv w mm M) (hne : pm ≠ mm)  : Ret Try.prog 32 #[(ptr k 0)] w (fun v' w' => Below w.heap.size w w' ∧ v' = .int .i64 ((esP P ps).length : Int)) := by
 have hi_k := hk.lt
 have hi_pm := hPm.lt
 have hi_mm := hMm.lt
 have djk := hA.notBx hk zz zz
 have djp := hA.notMap hPm
 have djm := hA.notMap hMm
 have hb := Below.refl w.heap.size w
 refine enter (N := 10) Try.func32 rfl rfl (by simp) fun a hN hd hA => ?_
 have b : a.tmps.getD 0 undef = (ptr k 0) := hA 0 (by simp)
 clear hA
 refine zF fun _ a => zH (zD rfl (zB (a _ _ (zF fun _ a => zF fun _ c => zH (zG (zC hN rfl b) (op_peq_some ptrt53 (zA hN rfl) rfl (zB ?_)))))))
 refine c _ _ (wp_cond_false (zA hN rfl) (wp_skip (a _ _ (zF fun _ a => zH (zG (zC hN rfl b) (op_nil (zA hN rfl) (zM fld71_0 (zA hN rfl) (zN one68 (zA hN rfl) (hk.cell rfl) (op_len_map Try.underlying68 (zA hN rfl) hPm (zD (zA hN rfl) (zB (a _ _ (wp_ret (ret1 rfl hd (zA hN rfl) ⟨_, rfl, ?_⟩))))))))))))))
 exact ⟨hb, rfl⟩

theorem HLen_n {base k : Nat} {nx : Int} {w : World} (hbase : base ≤ w.heap.size) (hk : Bx w k 71 [.map none, .int .i64 nx, .map none])  : Ret Try.prog 31 #[(ptr k 0)] w (fun v' w' => Below w.heap.size w w' ∧ v' = .int .i64 0) := by
 have hb := Below.refl w.heap.size w
 refine enter (N := 10) Try.func31 rfl rfl (by simp) fun a hN hd hA => ?_
 have b : a.tmps.getD 0 undef = (ptr k 0) := hA 0 (by simp)
 clear hA
 refine zF fun _ a => zH (zD rfl (zB (a _ _ (zF fun _ a => zF fun _ c => zH (zG (zC hN rfl b) (op_peq_some ptrt53 (zA hN rfl) rfl (zB ?_)))))))
 refine c _ _ (wp_cond_false (zA hN rfl) (wp_skip (a _ _ (zF fun _ a => zH (zG (zC hN rfl b) (op_nil (zA hN rfl) (zM fld71_2 (zA hN rfl) (zN one69 (zA hN rfl) (hk.cell rfl) (op_len_nilmap Try.underlying69 (zA hN rfl) (zD (zA hN rfl) (zB (a _ _ (wp_ret (ret1 rfl hd (zA hN rfl) ⟨_, rfl, ?_⟩))))))))))))))
 exact ⟨hb, rfl⟩

theorem HPages_n {base k : Nat} {nx : Int} {w : World} (hbase : base ≤ w.heap.size) (hk : Bx w k 71 [.map none, .int .i64 nx, .map none])  : Ret Try.prog 32 #[(ptr k 0)] w (fun v' w' => Below w.heap.size w w' ∧ v' = .int .i64 0) := by
 have hb := Below.refl w.heap.size w
 refine enter (N := 10) Try.func32 rfl rfl (by simp) fun a hN hd hA => ?_
 have b : a.tmps.getD 0 undef = (ptr k 0) := hA 0 (by simp)
 clear hA
 refine zF fun _ a => zH (zD rfl (zB (a _ _ (zF fun _ a => zF fun _ c => zH (zG (zC hN rfl b) (op_peq_some ptrt53 (zA hN rfl) rfl (zB ?_)))))))
 refine c _ _ (wp_cond_false (zA hN rfl) (wp_skip (a _ _ (zF fun _ a => zH (zG (zC hN rfl b) (op_nil (zA hN rfl) (zM fld71_0 (zA hN rfl) (zN one68 (zA hN rfl) (hk.cell rfl) (op_len_nilmap Try.underlying68 (zA hN rfl) (zD (zA hN rfl) (zB (a _ _ (wp_ret (ret1 rfl hd (zA hN rfl) ⟨_, rfl, ?_⟩))))))))))))))
 exact ⟨hb, rfl⟩

end Go.Proofs.Ytdhpalioifjfbaa

namespace Go.Proofs.Ytdhpalioifjfbaa
open Go.Gx Go.RowKit
def sortP (P : PM) : List Int := (P.map Prod.fst).mergeSort (fun x y => decide (x ≤ y))
theorem wf_i64 {n : Int} (h0 : -1000000 ≤ n) (h : n ≤ 1000000) : (Lit.int .i64 n).wf = true := by
  simp only [Lit.wf, IntKind.min, IntKind.max, IntKind.signed, IntKind.bits, Bool.and_eq_true, decide_eq_true_eq]; simp; omega
section
variable {P : PM} {ps : List Nat} {M : AM} {nx z : Int} {F : Nat → Prop} {w : World} {base : Nat} {L : List By} {i : Nat}
theorem keysUp_eq (h : ps.length = P.length) : keysUp (esP P ps) = sortP P := by unfold keysUp sortP; rw [esP_keys h]
theorem sortP_len : (sortP P).length = P.length := by unfold sortP; rw [List.length_mergeSort, List.length_map]
theorem sortP_mem : z ∈ sortP P ↔ z ∈ P.map Prod.fst := by unfold sortP; exact List.mem_mergeSort
theorem es_wf (h : ps.length = P.length) (hI : HInv P nx M) (hn : nx ≤ 1000000) : ∀ a ∈ esP P ps, (Lit.int .i64 a.1).wf = true := fun a ha => by
  have h1 : a.1 ∈ (esP P ps).map Prod.fst := List.mem_map.2 ⟨a, ha, rfl⟩
  rw [esP_keys h] at h1
  have h2 := hI.nums _ h1
  exact wf_i64 (by omega) (by omega)
theorem mget_in {V : Type} {es : List (Int × V)} {x : Int} (h : x ∈ es.map Prod.fst) : ∃ T, mget es x = some T := by
  cases hq : mget es x with
  | none => exact absurd h (mget_none.1 hq)
  | some T => exact ⟨T, rfl⟩
theorem sort_at (h : PgAll w base P ps F) (hi : i < (sortP P).length) : ∃ L p, mget P ((sortP P).getD i 0) = some L ∧ mget (esP P ps) ((sortP P).getD i 0) = some p := by
  have hm : (sortP P).getD i 0 ∈ P.map Prod.fst := sortP_mem.1 (by rw [List.getD_eq_getElem?_getD, List.getElem?_eq_getElem hi]; exact List.getElem_mem hi)
  obtain ⟨L, hL⟩ := mget_in hm
  obtain ⟨p, F1, hp, _⟩ := h.key hL
  exact ⟨L, p, hL, hp⟩
theorem sort_rng (hI : HInv P nx M) (hi : i < (sortP P).length) : 1 ≤ (sortP P).getD i 0 ∧ (sortP P).getD i 0 ≤ nx :=
  hI.nums _ (sortP_mem.1 (by rw [List.getD_eq_getElem?_getD, List.getElem?_eq_getElem hi]; exact List.getElem_mem hi))
theorem mget_put_same {K V : Type} [DecidableEq K] : ∀ {M : List (K × V)} {k : K} {v : V}, mget (mput M k v) k = some v
  | [], k, v => by simp [mput, mlook, mget]
  | (a, u) :: t, k, v => by
    rw [mput_cons]
    by_cases h : k = a
    · rw [if_pos h, mget_cons, if_pos rfl]
    · rw [if_neg h, mget_cons, if_neg h]; exact mget_put_same
theorem mdel_mput {K V : Type} [DecidableEq K] : ∀ {M : List (K × V)} {k : K} {v u : V}, mget M k = some u → mdel (mput M k v) k = mdel M k
  | [], k, v, u, h => by cases h
  | (a, b) :: t, k, v, u, h => by
    rw [mput_cons]
    by_cases hk : k = a
    · rw [if_pos hk, mdel_cons, if_pos rfl, mdel_cons, if_pos hk]
    · rw [mget_cons, if_neg hk] at h
      rw [if_neg hk, mdel_cons, if_neg hk, mdel_cons, if_neg hk, mdel_mput h]
end
end Go.Proofs.Ytdhpalioifjfbaa

namespace Go.Proofs.Ytdhpalioifjfbaa
open Go.Gx Go.RowKit
attribute [local irreducible] wpList wpStill Code.wp Calls

theorem pageNew_ret (w : World) : Ret Try.prog 10 #[] w (fun v' w' => Below w.heap.size w w' ∧ ∃ p F, v' = ptr p 0 ∧ PageR w' w.heap.size p [] F) :=
  (new_ret w).mono fun v' w' ⟨hb, p, hv, h0, hx⟩ => ⟨hb, p, _, hv, pg_new h0 hx⟩

theorem pkeys_ret {m : Nat} (w : World) : Ret Try.prog 55 #[(Value.map (some m))] w (fun v' w' => Below w.heap.size w w' ∧ ∃ b, w.heap.size ≤ b ∧ v' = .func (.func 61) #[] #[ptr b 0] ∧ Bx w' b 68 [.map (some m)]) := by
 have hb := Below.refl w.heap.size w
 refine enter (N := 4) Try.func55 rfl rfl (by simp) fun a hN hd hA => ?_
 have c : a.tmps.getD 0 undef = (Value.map (some m)) := hA 0 (by simp)
 clear hA
 refine zF fun _ a => zH (op_box (cs := [(Value.map (some m))]) (zC hN rfl c) rfl ?_)
 intro f c h g e d
 obtain ⟨hb, _⟩ := yE hb d
 refine zD rfl (zB (a _ _ (zF fun _ a => zH (op_mkfn (cv := [(ptr c 0)]) ⟨(zA hN rfl), trivial⟩ (zD (zA hN rfl) (zB (a _ _ (wp_ret (ret1 rfl hd (zA hN rfl) ⟨_, rfl, ?_⟩)))))))))
 exact ⟨hb, c, by omega, rfl, e⟩

theorem pkeys_retN (w : World) : Ret Try.prog 55 #[(Value.map none)] w (fun v' w' => Below w.heap.size w w' ∧ ∃ b, w.heap.size ≤ b ∧ v' = .func (.func 61) #[] #[ptr b 0] ∧ Bx w' b 68 [.map none]) := by
 have hb := Below.refl w.heap.size w
 refine enter (N := 4) Try.func55 rfl rfl (by simp) fun a hN hd hA => ?_
 have c : a.tmps.getD 0 undef = (Value.map none) := hA 0 (by simp)
 clear hA
 refine zF fun _ a => zH (op_box (cs := [(Value.map none)]) (zC hN rfl c) rfl ?_)
 intro g c f h e d
 obtain ⟨hb, _⟩ := yE hb d
 refine zD rfl (zB (a _ _ (zF fun _ a => zH (op_mkfn (cv := [(ptr c 0)]) ⟨(zA hN rfl), trivial⟩ (zD (zA hN rfl) (zB (a _ _ (wp_ret (ret1 rfl hd (zA hN rfl) ⟨_, rfl, ?_⟩)))))))))
 exact ⟨hb, c, by omega, rfl, e⟩

theorem puts_m {base k pm mm : Nat} {P : PM} {ps : List Nat} {M : AM} {nx : Int} {F0 : Nat → Prop} {w : World} (hbase : base ≤ w.heap.size) (hk : Bx w k 71 [.map (some pm), .int .i64 nx, .map (some mm)]) (hA : PgAll w base P ps F0) (hPm : MapC (.int .i64) pv w pm (esP P ps)) (hMm : MapC (.int .u64) plv w mm M) (hne : pm ≠ mm) (hI : HInv P nx M) (hnx : nx ≤ 1000000) (hn0 : 0 ≤ nx) (hPl : P.length ≤ 1000000) {r : By} {bv : Value} {Lo Bo : Nat} (hbr : RdC w Lo Bo 1 bv r.length (r.map u8v)) (hap : ∀ x, F0 x → x < Lo ∨ Bo ≤ x) (hBw : Bo ≤ w.heap.size)  : Ret Try.prog 46 #[(ptr k 0), bv] w (fun v' w' => Gr w w' (fun x => x = k ∨ x = pm ∨ F0 x) ∧ ∃ (e : Int) (to : Int × Int) (P' : PM) (nx' : Int) (ps' : List Nat) (F0' : Nat → Prop), v' = .tuple #[plv to, .int .i64 e] ∧ Bx w' k 71 [.map (some pm), .int .i64 nx', .map (some mm)] ∧ PgAll w' base P' ps' F0' ∧ MapC (.int .i64) pv w' pm (esP P' ps') ∧ PutsP P nx r e to P' nx' ∧ NewF w.heap.size F0 F0') := by
 have hi_k := hk.lt
 have hi_pm := hPm.lt
 have hi_mm := hMm.lt
 have hps := hA.1
 have hsl := sortP_len (P := P)
 have hb := Gr.refl w (fun x => x = k ∨ x = pm ∨ F0 x)
 refine enter (N := 87) Try.func46 rfl rfl (by simp) fun a hN hd hA => ?_
 have b : a.tmps.getD 0 undef = (ptr k 0) := hA 0 (by simp)
 have c : a.tmps.getD 1 undef = bv := hA 1 (by simp)
 clear hA
 refine zF fun _ a => zH (op_alloc (cs := [(.int .i64 0), (.int .i64 0)]) zero80 rfl ?_)
 intro h g l j d f
 obtain ⟨hb, _⟩ := yG hb f
 have hk := hk.keep0 f
 have hA := hA.kz f
 refine zD rfl (zB (a _ _ (zF fun _ a => ?_)))
 refine zF fun _ h => zH (zG (zC hN rfl b) (op_nil (zA hN rfl) (zM fld71_0 (zA hN rfl) (zN one68 (zA hN rfl) (hk.cell rfl) (zj ok55 (pkeys_ret _) ⟨(zA hN rfl), trivial⟩ ?_)))))
 rintro _ p ⟨l, n, o, rfl, j⟩
 have l := zQ l
 obtain ⟨hb, _⟩ := yG hb l
 have hA := hA.kz l
 have hPm := (hPm.keep0 f).keep0 l
 refine zj ok54 (sortedKeys_ret hPm (es_wf hps hI hnx) (by rw [esP_len hps]; omega) j) ⟨(zA hN rfl), trivial⟩ ?_
 rintro s t ⟨p, o⟩
 have p := zQ p
 obtain ⟨hb, _⟩ := yG hb p
 have hk := (hk.keep0 l).keep0 p
 have hA := hA.kz p
 have hPm := hPm.keep0 p
 have hMm := ((hMm.keep0 f).keep0 l).keep0 p
 have hbr := ((hbr.keep0 f).keep0 l).keep0 p
 have d := (d.keep0 l).keep0 p
 have j := j.keep0 p
 rw [keysUp_eq hps] at o
 have o := o.mono (base' := w.heap.size) zx
 refine op_len_rd Try.underlying29 (zA hN rfl) o.rdw (zG rfl (zB (h _ _ (wp_block (loop_m (fun mz_ az_ w' => ∃ (i : Nat) (FK : Nat → Prop), mz_ = (sortP P).length - i ∧ (Sl az_ 0 (ptr k 0)) ∧ (Sl az_ 1 bv) ∧ (Sl az_ 4 (ptr g 0)) ∧ (Sl az_ 18 s) ∧ (Sl az_ 19 (.int .i64 (((sortP P).length : Nat) : Int))) ∧ (Sl az_ 20 (.int .i64 ((i : Nat) : Int))) ∧ (i ≤ (sortP P).length) ∧ (NewF w.heap.size F0 FK) ∧ (Gr w w' (fun x => x = k ∨ x = pm ∨ F0 x)) ∧ (t.heap.size ≤ w'.heap.size) ∧ (Bx w' k 71 [(Value.map (some pm)), (.int .i64 nx), (Value.map (some mm))]) ∧ (MapC (.int .i64) pv w' pm (esP P ps)) ∧ (MapC (.int .u64) plv w' mm M) ∧ (RdC w' Lo Bo 1 bv r.length (r.map u8v)) ∧ (Bx w' g 80 [(.int .i64 0), (.int .i64 0)]) ∧ (Bx w' n 68 [(Value.map (some pm))]) ∧ (Own w' w.heap.size 3 1 s (sortP P).length ((sortP P).map (Value.int .i64))) ∧ (PgAll w' base P ps FK)) _ hN hd ⟨0, F0, rfl, (zL hN rfl b), (zL hN rfl c), (zU hN rfl), (zU hN rfl), (zU hN rfl), (zU hN rfl), (Nat.zero_le _), (NewF.refl _ _), hb, (Nat.le_refl _), hk, hPm, hMm, hbr, d, j, o, hA⟩ ?_)))))
 rintro _ A u b l ⟨i, FK, rfl, c, p, f, t, s, n, hi, hNK, hb, z, hk, hPm, hMm, hbr, d, j, o, hA⟩
 have := hb.size
 refine zF fun _ h => zH (op_lss (zC b rfl n) (zC b rfl s) (fun z => ?_) (fun z => ?_))
 ·
  refine zB (h _ _ (zF fun _ h => wp_cond_true (zA b rfl) (wp_skip (h _ _ (zF fun _ h => wp_block (zF fun _ z => zH (zh slt29 (zC b rfl t) o.rdw (zC b rfl n) zx zx ?_)))))))
  intro B C D E A
  refine zN (v := (Value.int .i64 ((sortP P).getD i 0))) one3 (zA b rfl) (by have := A 0 (.int .i64 ((sortP P).getD i 0)) zz (el_i64 (i := i) zx zx); simpa using this) (zD (zA b rfl) (zB (z _ _ (zF fun _ z => zH ?_))))
  obtain ⟨A, D, B, C⟩ := sort_at hA (show i < (sortP P).length by omega)
  have E := sort_rng hI (show i < (sortP P).length by omega)
  refine zG (zC b rfl c) ?_
  refine op_nil (zA b rfl) (zM fld71_0 (zA b rfl) (zN one68 (zA b rfl) (hk.cell rfl) (zG (zA b rfl) (op_look_hit (k := ((sortP P).getD i 0)) (v := D) Try.underlying68 (Go.Gx.key_int Try.underlying3) zero24 (zA b rfl) (zA b rfl) hPm C (zG (zC b rfl p) (zj ok11 (pa_put hA B C zx hbr (fun k hk => (hNK k hk).elim (hap k) (fun q => .inr zx)) zx) ⟨(zA b rfl), ⟨(zA b rfl), trivial⟩⟩ ?_))))))
  rintro _ G ⟨C, rfl, E, D, F⟩
  have G := hk.lt
  have G := hPm.lt
  have G := hMm.lt
  have G := d.lt
  have G := j.lt
  have G := o.lt
  have hA_old := hA
  have := C.size
  have hk := hk.keepG C (hA_old.notBx hk zz zz)
  have hPm := hPm.keepG C (hA_old.notMap hPm)
  have hMm := hMm.keepG C (hA_old.notMap hMm)
  have hbr := hbr.keepG C (fun k hk => (hNK k hk).elim (hap k) (fun q => .inr zx))
  have d := d.keepG C (hA_old.notBx d zz zz)
  have j := j.keepG C (hA_old.notBx j zz zz)
  have o := o.keepG C (hA_old.notOwn o zz zz)
  have hb := hb.stepF C (fun y hy G => .inr (.inr ((hNK y G).resolve_right zx)))
  have C : NewF w.heap.size F0 E := NewF.trans hNK F zx
  refine zG (zA b rfl) (zW (zA b rfl) rfl (zW (zA b rfl) rfl (zD (zA b rfl) (zD (zA b rfl) (zB (z _ _ (zF fun _ z => zH (zG (zA b rfl) (op_eql (zA b rfl) rfl (fun F => ?_) (fun F => ?_))))))))))
  ·
   refine zB (z _ _ (wp_cond_true (zA b rfl) (zF fun _ z => zH (zG (zA b rfl) (zG (zA b rfl) (zf (pv := [(0, (.int .i64 ((sortP P).getD i 0))), (1, (.int .i64 (putK A r)))]) (v := (Value.agg #[(.int .i64 ((sortP P).getD i 0)), (.int .i64 (putK A r))])) ⟨rfl, (zA b rfl), ⟨rfl, (zA b rfl), trivial⟩⟩ zy ?_))))))
   have H := d
   refine zZ size80 (zC b rfl f) (zA b rfl) rfl rfl d rfl ?_
   intro J d I
   have := I.size
   have hk := hk.keep I (sN hk H)
   have hPm := hPm.keepB H I
   have D := D.keepG (Gr.of I) (Dj.one (D.notBx H zz zz))
   have hb := hb.step1 I zx
   refine zD rfl (zB (z _ _ (wp_ret (zb (zO (zO (zb (zO ( (retD rfl l (zC b rfl f) agg80 rfl d (zA b rfl) ⟨_, rfl, ?_⟩))))))))))
   have I := F
   exact ⟨hb, 0, ((sortP P).getD i 0, putK A r), _, _, ps, _, rfl, hk, D, (by rw [esP_mput hps B]; exact hPm), .inr ⟨(putE_ne I).2, rfl, .inl ⟨A, B, I, rfl, rfl, rfl⟩⟩, C⟩
  refine zB (z _ _ (wp_cond_false (zA b rfl) (wp_skip (h _ _ (zH (op_add (zC b rfl n) rfl (add64 zx) (zG (zA b rfl) (zB ?_))))))))
  -- round 21T 36F
  exact zg _ b l ⟨(i + 1), E, rfl, (zL b rfl c), (zL b rfl p), (zL b rfl f), (zL b rfl t), (zL b rfl s), (zU b rfl).trans (congrArg (Value.int .i64) zx), zx, C, hb, zx, hk, hPm, hMm, hbr, d, j, o, (by have G := D; rw [putN_same F, mput_same B] at G; exact G)⟩ zx
 refine zB (h _ _ (zF fun _ h => wp_cond_false (zA b rfl) (wp_exit (then_exit (then_exit (blk_hit (a _ _ (zF fun _ a => zH (zj ok10 (pageNew_ret _) trivial ?_)))))))))
 rintro _ A ⟨n, z, s, rfl, t⟩
 have B : ∀ k, s k → u.heap.size ≤ k := fun k hk => (t.lt k hk).1
 have u : ¬ s k := fun hf => by have := B _ hf; have := hk.lt; omega
 have C : ¬ s pm := fun hf => by have := B _ hf; have := hPm.lt; omega
 have D : ¬ s g := fun hf => by have := B _ hf; have := d.lt; omega
 have E : Dj FK s := Dj.fresh (fun k hk => (hA.lt k hk).2) B
 have n := zQ n
 obtain ⟨hb, _⟩ := yG hb n
 have hk := hk.keep0 n
 have hPm := hPm.keep0 n
 have hMm := hMm.keep0 n
 have hbr := hbr.keep0 n
 have o := o.keep0 n
 obtain ⟨d, j⟩ := kb2 n d j
 have hA := hA.kz n
 have B : ∀ k, s k → w.heap.size ≤ k := fun k hk => by have := B k hk; omega
 have t : PageR A w.heap.size z [] s := t.mono zx
 refine zD (zA b rfl) ?_
 refine zB (a _ _ (zF fun _ a => zH (zG (zA b rfl) (zG (zC b rfl p) (zj ok11 (pg_put t zx hbr (fun k hk => .inr (by have := B k hk; omega)) zx) ⟨(zA b rfl), ⟨(zA b rfl), trivial⟩⟩ ?_)))))
 rintro _ F ⟨n, rfl, s, A, p⟩
 have F := hk.lt
 have J := hPm.lt
 have K := hMm.lt
 have K := d.lt
 have O := j.lt
 have j := o.lt
 have j := hA.lt
 have o := t
 have := n.size
 have hk := hk.keepG n u
 have hPm := hPm.keepG n C
 have d := d.keepG n D
 have hA := hA.keepG n E
 have hb := hb.stepN n (fun k hk => (o.lt k hk).1)
 have n : ¬ s k := ne_stepF p F u
 have o : ¬ s pm := ne_stepF p J C
 have t : ¬ s g := ne_stepF p K D
 have g : Dj FK s := Dj.stepF p (fun k hk => (j k hk).2) E
 have j : ∀ x, s x → w.heap.size ≤ x := fun x hx => (p x hx).elim (fun q => B x q) (fun q => by omega)
 refine zG (zA b rfl) (zW (zA b rfl) rfl (zW (zA b rfl) rfl (zD (zA b rfl) (zD (zA b rfl) (zB (a _ _ (zF fun _ a => zF fun _ h => zH ?_)))))))
 skip
 refine zG (zA b rfl) (op_neq (zA b rfl) rfl (fun p => ?_) (fun p => ?_))
 ·
  refine zB (h _ _ (wp_cond_true (zA b rfl) (zF fun _ h => zH (zf (pv := []) (v := (Value.agg #[(.int .i64 0), (.int .i64 0)])) trivial zy (zG (zA b rfl) ?_)))))
  have H := d
  refine zZ size80 (zC b rfl f) (zA b rfl) rfl rfl d rfl ?_
  intro u d s
  have := s.size
  have hk := hk.keep s (sN hk H)
  have hPm := hPm.keepB H s
  have hA := hA.keepG (Gr.of s) (Dj.one (hA.notBx H zz zz))
  have hb := hb.step1 s zx
  refine zD (zA b rfl) (zB (h _ _ (wp_ret (zO ( (retD rfl l (zC b rfl f) agg80 rfl d (zA b rfl) ⟨_, rfl, ?_⟩))))))
  have s : badB r = true := by
    cases G : badB r
    · exact absurd (putE_nil G) p
    · rfl
  rw [putE_bad s]
  exact ⟨hb, 7, (0, 0), _, _, ps, _, rfl, hk, hA, hPm, .inl ⟨s, rfl, rfl, rfl⟩, hNK⟩
 refine zB (h _ _ (wp_cond_false (zA b rfl) (wp_skip (a _ _ (zF fun _ a => zH (zG (zC b rfl c) (op_nil (zA b rfl) (zM fld71_1 (zA b rfl) (zN one3 (zA b rfl) (hk.cell rfl) (op_add (zA b rfl) rfl (add64 zx) (op_nil (zA b rfl) (zM fld71_1 (zA b rfl) ?_))))))))))))
 have hk_old := hk
 refine za (vs := [(.int .i64 (nx + 1))]) (cs' := [(Value.map (some pm)), (.int .i64 (nx + 1)), (Value.map (some mm))]) size3 (zA b rfl) (zA b rfl) rfl rfl rfl hk (zI rfl) rfl ?_
 intro u hk s
 have := s.size
 have d := d.keep s (sN d hk_old)
 have hA := hA.keepG (Gr.of s) (Dj.one (hA.notBx hk_old zz zz))
 have hb := hb.stepB s (.inl rfl)
 refine zB ?_
 refine a _ _ (zF fun _ a => zF fun _ h => zH (zG (zC b rfl c) (op_nil (zA b rfl) (zM fld71_0 (zA b rfl) (zN one68 (zA b rfl) (hk.cell rfl) (op_meq (r := some pm) Try.underlying68 (zA b rfl) rfl (zB (h _ _ (wp_cond_false (zA b rfl) (wp_skip (a _ _ (zF fun _ a => reg_from mixed ?_))))))))))))
 intro u h
 obtain ⟨hb, _⟩ := yG hb h
 have hPm := (hPm.keepB hk_old s).keep0 h
 have hA := hA.kz h
 have hk := hk.keep0 h
 refine from_still (m := 9) 9 (hd := [_, _, _, _, _, _, _, _, _]) zy rfl rfl (st_step rfl (fun _ G => zG (zC b rfl c) G) ?_)
 refine st_step rfl (fun _ G => op_nil (zA b rfl) G) (st_step rfl (fun _ G => zM fld71_0 (zA b rfl) G) (st_step rfl (fun _ G => zN one68 (zA b rfl) (hk.cell rfl) G) (st_step rfl (fun _ G => zG (zC b rfl c) G) (st_step rfl (fun _ G => op_nil (zA b rfl) G) (st_step rfl (fun _ G => zM fld71_1 (zA b rfl) G) (st_step rfl (fun _ G => zN one3 (zA b rfl) (hk.cell rfl) G) (st_step rfl (fun _ G => zG (zA b rfl) G) (st_nil (from_seq (tl := [_]) zz zy rfl ?_)))))))))
 have hPm_old := hPm
 refine op_mapput (k := (nx + 1)) (v := z) Try.underlying68 (Go.Gx.key_int Try.underlying3) (zA b rfl) (zA b rfl) (zA b rfl) hPm ?_
 intro B z u
 have := u.size
 have d := (d.keep0 h).keepM hPm_old u
 have hA := hA.keepG (Gr.of u) (Dj.one (hA.notMap hPm_old))
 have hk := hk.keepM hPm_old u
 have hb := hb.stepB u (.inr (.inl rfl))
 refine zB (a _ _ (zF fun _ a => zH (zG (zC b rfl c) (op_nil (zA b rfl) (zM fld71_1 (zA b rfl) (zN one3 (zA b rfl) (hk.cell rfl) (zG (zA b rfl) (zf (pv := [(0, (.int .i64 (nx + 1))), (1, (.int .i64 (putK ([] : List By) r)))]) (v := (Value.agg #[(.int .i64 (nx + 1)), (.int .i64 (putK ([] : List By) r))])) ⟨rfl, (zA b rfl), ⟨rfl, (zA b rfl), trivial⟩⟩ zy ?_))))))))
 have H := d
 refine zZ size80 (zC b rfl f) (zA b rfl) rfl rfl d rfl ?_
 intro B d c
 have := c.size
 have hA := hA.keepG (Gr.of c) (Dj.one (hA.notBx H zz zz))
 have A := (((A.keepG (Gr.of s) (Dj.one n)).kz h).keepG (Gr.of u) (Dj.one o)).keepG (Gr.of c) (Dj.one t)
 have hk := hk.keep c (sN hk H)
 have z := z.keepB H c
 have hb := hb.step1 c zx
 refine zD rfl (zB (a _ _ (wp_ret (retD rfl l (zC b rfl f) agg80 rfl d (zA b rfl) ⟨_, rfl, ?_⟩))))
 have I : putE [] r = 0 := by first | exact p | exact Decidable.not_not.1 p
 have a := z
 rw [(esP_new (L := putN [] r) hps hI.fresh).2] at a
 exact ⟨hb, 0, (nx + 1, putK [] r), _, _, _, _, rfl, hk, hA.snoc (A.mono zx) g, a, .inr ⟨(putE_ne I).2, rfl, .inr ⟨rfl, rfl, rfl⟩⟩, fun x hx => hx.elim (hNK x) (fun q => .inr (j x q))⟩

theorem puts_n {base k : Nat} {nx : Int} {w : World} (hbase : base ≤ w.heap.size) (hk : Bx w k 71 [.map none, .int .i64 nx, .map none]) (hn0 : 0 ≤ nx) (hnx : nx ≤ 1000000) {r : By} {bv : Value} {Lo Bo : Nat} (hbr : RdC w Lo Bo 1 bv r.length (r.map u8v)) (hBw : Bo ≤ w.heap.size)  : Ret Try.prog 46 #[(ptr k 0), bv] w (fun v' w' => Gr w w' (fun x => x = k) ∧ ((badB r = true ∧ v' = .tuple #[plv (0, 0), .int .i64 7] ∧ Bx w' k 71 [.map none, .int .i64 nx, .map none]) ∨ (badB r = false ∧ v' = .tuple #[plv (nx + 1, putK [] r), .int .i64 0] ∧ ∃ (pm mm p : Nat) (F1 : Nat → Prop), w.heap.size ≤ pm ∧ w.heap.size ≤ mm ∧ pm ≠ mm ∧ Bx w' k 71 [.map (some pm), .int .i64 (nx + 1), .map (some mm)] ∧ MapC (.int .i64) pv w' pm [(nx + 1, p)] ∧ MapC (.int .u64) plv w' mm [] ∧ PageR w' w.heap.size p (putN [] r) F1))) := by
 have hi_k := hk.lt
 have hb := Gr.refl w (fun x => x = k)
 refine enter (N := 87) Try.func46 rfl rfl (by simp) fun a hN hd hA => ?_
 have b : a.tmps.getD 0 undef = (ptr k 0) := hA 0 (by simp)
 have c : a.tmps.getD 1 undef = bv := hA 1 (by simp)
 clear hA
 refine zF fun _ a => zH (op_alloc (cs := [(.int .i64 0), (.int .i64 0)]) zero80 rfl ?_)
 intro g e j h d f
 obtain ⟨hb, _⟩ := yG hb f
 have hk := hk.keep0 f
 refine zD rfl (zB (a _ _ (zF fun _ a => ?_)))
 refine zF fun _ g => zH (zG (zC hN rfl b) (op_nil (zA hN rfl) (zM fld71_0 (zA hN rfl) (zN one68 (zA hN rfl) (hk.cell rfl) (zj ok55 (pkeys_retN _) ⟨(zA hN rfl), trivial⟩ ?_)))))
 rintro _ o ⟨j, l, n, rfl, h⟩
 have j := zQ j
 obtain ⟨hb, _⟩ := yG hb j
 refine zj ok54 (sortedNil_ret h) ⟨(zA hN rfl), trivial⟩ ?_
 rintro s t ⟨o, n⟩
 have o := zQ o
 obtain ⟨hb, _⟩ := yG hb o
 have hk := (hk.keep0 j).keep0 o
 have hbr := ((hbr.keep0 f).keep0 j).keep0 o
 have d := (d.keep0 j).keep0 o
 have h := h.keep0 o
 have n := n.mono (base' := w.heap.size) zx
 refine op_len_rd Try.underlying29 (zA hN rfl) n.rdw (zG rfl (zB (g _ _ (wp_block (loop_m (fun mz_ az_ w' => ∃ (i : Nat), mz_ = 1 - i ∧ (Sl az_ 0 (ptr k 0)) ∧ (Sl az_ 1 bv) ∧ (Sl az_ 4 (ptr e 0)) ∧ (Sl az_ 18 s) ∧ (Sl az_ 19 (.int .i64 0)) ∧ (Sl az_ 20 (.int .i64 ((i : Nat) : Int))) ∧ (i ≤ 0) ∧ (Gr w w' (fun x => x = k)) ∧ (t.heap.size ≤ w'.heap.size) ∧ (Bx w' k 71 [(Value.map none), (.int .i64 nx), (Value.map none)]) ∧ (RdC w' Lo Bo 1 bv r.length (r.map u8v)) ∧ (Bx w' e 80 [(.int .i64 0), (.int .i64 0)]) ∧ (Bx w' l 68 [(Value.map none)]) ∧ (Own w' w.heap.size 3 1 s 0 ([]))) _ hN hd ⟨0, rfl, (zL hN rfl b), (zL hN rfl c), (zU hN rfl), (zU hN rfl), (zU hN rfl), (zU hN rfl), (Nat.zero_le _), hb, (Nat.le_refl _), hk, hbr, d, h, n⟩ ?_)))))
 rintro _ u s b j ⟨i, rfl, c, t, f, y, o, l, hi, hb, z, hk, hbr, d, h, n⟩
 have := hb.size
 refine zF fun _ g => zH (op_lss (zC b rfl l) (zC b rfl o) (fun u => ?_) (fun u => ?_))
 ·
  exfalso; omega
 refine zB (g _ _ (zF fun _ g => wp_cond_false (zA b rfl) (wp_exit (then_exit (then_exit (blk_hit (a _ _ (zF fun _ a => zH (zj ok10 (pageNew_ret _) trivial ?_)))))))))
 rintro _ z ⟨l, y, o, rfl, u⟩
 have A : ∀ k, o k → s.heap.size ≤ k := fun k hk => (u.lt k hk).1
 have s : ¬ o k := fun hf => by have := A _ hf; have := hk.lt; omega
 have B : ¬ o e := fun hf => by have := A _ hf; have := d.lt; omega
 have l := zQ l
 obtain ⟨hb, _⟩ := yG hb l
 have hk := hk.keep0 l
 have hbr := hbr.keep0 l
 have n := n.keep0 l
 obtain ⟨d, h⟩ := kb2 l d h
 have A : ∀ k, o k → w.heap.size ≤ k := fun k hk => by have := A k hk; omega
 have u : PageR z w.heap.size y [] o := u.mono zx
 refine zD (zA b rfl) ?_
 refine zB (a _ _ (zF fun _ a => zH (zG (zA b rfl) (zG (zC b rfl t) (zj ok11 (pg_put u zx hbr (fun k hk => .inr (by have := A k hk; omega)) zx) ⟨(zA b rfl), ⟨(zA b rfl), trivial⟩⟩ ?_)))))
 rintro _ C ⟨t, rfl, o, l, z⟩
 have C := hk.lt
 have D := d.lt
 have E := h.lt
 have h := n.lt
 have h := u
 have := t.size
 have hk := hk.keepG t s
 have d := d.keepG t B
 have hb := hb.stepN t (fun k hk => (h.lt k hk).1)
 have h : ¬ o k := ne_stepF z C s
 have n : ¬ o e := ne_stepF z D B
 have e : ∀ x, o x → w.heap.size ≤ x := fun x hx => (z x hx).elim (fun q => A x q) (fun q => by omega)
 refine zG (zA b rfl) (zW (zA b rfl) rfl (zW (zA b rfl) rfl (zD (zA b rfl) (zD (zA b rfl) (zB (a _ _ (zF fun _ a => zF fun _ g => zH ?_)))))))
 skip
 refine zG (zA b rfl) (op_neq (zA b rfl) rfl (fun e => ?_) (fun e => ?_))
 ·
  refine zB (g _ _ (wp_cond_true (zA b rfl) (zF fun _ g => zH (zf (pv := []) (v := (Value.agg #[(.int .i64 0), (.int .i64 0)])) trivial zy (zG (zA b rfl) ?_)))))
  have s := d
  refine zZ size80 (zC b rfl f) (zA b rfl) rfl rfl d rfl ?_
  intro u d t
  have := t.size
  have hk := hk.keep t (sN hk s)
  have hb := hb.step1 t zx
  refine zD (zA b rfl) (zB (g _ _ (wp_ret (zO ( (retD rfl j (zC b rfl f) agg80 rfl d (zA b rfl) ⟨_, rfl, ?_⟩))))))
  have t : badB r = true := by
    cases u : badB r
    · exact absurd (putE_nil u) e
    · rfl
  rw [putE_bad t]
  exact ⟨hb, .inl ⟨t, rfl, hk⟩⟩
 refine zB (g _ _ (wp_cond_false (zA b rfl) (wp_skip (a _ _ (zF fun _ a => zH (zG (zC b rfl c) (op_nil (zA b rfl) (zM fld71_1 (zA b rfl) (zN one3 (zA b rfl) (hk.cell rfl) (op_add (zA b rfl) rfl (add64 zx) (op_nil (zA b rfl) (zM fld71_1 (zA b rfl) ?_))))))))))))
 have hk_old := hk
 refine za (vs := [(.int .i64 (nx + 1))]) (cs' := [(Value.map none), (.int .i64 (nx + 1)), (Value.map none)]) size3 (zA b rfl) (zA b rfl) rfl rfl rfl hk (zI rfl) rfl ?_
 intro z hk t
 have := t.size
 have d := d.keep t (sN d hk_old)
 have l := l.keepG (Gr.of t) (Dj.one h)
 have hb := hb.stepB t rfl
 refine zB (a _ _ (zF fun _ a => zF fun _ g => ?_))
 refine zH (zG (zC b rfl c) (op_nil (zA b rfl) (zM fld71_0 (zA b rfl) (zN one68 (zA b rfl) (hk.cell rfl) (op_meq (r := none) Try.underlying68 (zA b rfl) rfl (zB (g _ _ (wp_cond_true (zA b rfl) (zH (zG (zC b rfl c) (zG (zC b rfl c) (op_mkmap (kv := (Value.int .i64)) (vv := pv) ?_))))))))))))
 intro A t C B g z
 have A : ¬ o t := fun hf => by have := (l.lt _ hf).2; omega
 obtain ⟨hb, _⟩ := yG hb z
 have l := l.kz z
 refine op_mkmap (kv := (Value.int .u64)) (vv := plv) ?_
 intro D C F E o B
 obtain ⟨hb, _⟩ := yG hb B
 have d := (d.keep0 z).keep0 B
 have hk := (hk.keep0 z).keep0 B
 refine op_nil (zA b rfl) (zM fld71_0 (zA b rfl) ?_)
 have hk_old := hk
 refine za (vs := [(Value.map (some t))]) (cs' := [(Value.map (some t)), (.int .i64 (nx + 1)), (Value.map none)]) size68 (zA b rfl) (zA b rfl) rfl rfl rfl hk (zI rfl) rfl ?_
 intro D hk z
 have := z.size
 have d := d.keep z (sN d hk_old)
 have g := (g.keep0 B).keepB hk_old z
 have o := o.keepB hk_old z
 have hb := hb.stepB z rfl
 refine op_nil (zA b rfl) (zM fld71_2 (zA b rfl) ?_)
 have hk_old := hk
 refine za (vs := [(Value.map (some C))]) (cs' := [(Value.map (some t)), (.int .i64 (nx + 1)), (Value.map (some C))]) size69 (zA b rfl) (zA b rfl) rfl rfl rfl hk (zI rfl) rfl ?_
 intro E hk D
 have := D.size
 have d := d.keep D (sN d hk_old)
 have l := ((l.kz B).keepG (Gr.of z) (Dj.one h)).keepG (Gr.of D) (Dj.one h)
 have hb := hb.stepB D rfl
 refine zB (a _ _ (zF fun _ a => reg_from mixed ?_))
 intro z h
 obtain ⟨hb, _⟩ := yG hb h
 have g := (g.keepB hk_old D).keep0 h
 have hk := hk.keep0 h
 refine from_still (m := 9) 9 (hd := [_, _, _, _, _, _, _, _, _]) zy rfl rfl (st_step rfl (fun _ u => zG (zC b rfl c) u) ?_)
 refine st_step rfl (fun _ u => op_nil (zA b rfl) u) (st_step rfl (fun _ u => zM fld71_0 (zA b rfl) u) (st_step rfl (fun _ u => zN one68 (zA b rfl) (hk.cell rfl) u) (st_step rfl (fun _ u => zG (zC b rfl c) u) (st_step rfl (fun _ u => op_nil (zA b rfl) u) (st_step rfl (fun _ u => zM fld71_1 (zA b rfl) u) (st_step rfl (fun _ u => zN one3 (zA b rfl) (hk.cell rfl) u) (st_step rfl (fun _ u => zG (zA b rfl) u) (st_nil (from_seq (tl := [_]) zz zy rfl ?_)))))))))
 have u := g
 refine op_mapput (k := (nx + 1)) (v := y) Try.underlying68 (Go.Gx.key_int Try.underlying3) (zA b rfl) (zA b rfl) (zA b rfl) g ?_
 intro z y g
 have := g.size
 have d := (d.keep0 h).keepM u g
 have hk := hk.keepM u g
 have hb := hb.step1 g zx
 refine zB (a _ _ (zF fun _ a => zH (zG (zC b rfl c) (op_nil (zA b rfl) (zM fld71_1 (zA b rfl) (zN one3 (zA b rfl) (hk.cell rfl) (zG (zA b rfl) (zf (pv := [(0, (.int .i64 (nx + 1))), (1, (.int .i64 (putK ([] : List By) r)))]) (v := (Value.agg #[(.int .i64 (nx + 1)), (.int .i64 (putK ([] : List By) r))])) ⟨rfl, (zA b rfl), ⟨rfl, (zA b rfl), trivial⟩⟩ zy ?_))))))))
 have s := d
 refine zZ size80 (zC b rfl f) (zA b rfl) rfl rfl d rfl ?_
 intro u d c
 have := c.size
 have l := ((l.kz h).keepG (Gr.of g) (Dj.one A)).keepG (Gr.of c) (Dj.one n)
 have o := (((o.keepB hk_old D).keep0 h).keep g sB).keepB s c
 have hk := hk.keep c (sN hk s)
 have y := y.keepB s c
 have hb := hb.step1 c zx
 refine zD rfl (zB (a _ _ (wp_ret (retD rfl j (zC b rfl f) agg80 rfl d (zA b rfl) ⟨_, rfl, ?_⟩))))
 have a : putE [] r = 0 := by first | exact e | exact Decidable.not_not.1 e
 exact ⟨hb, .inr ⟨(putE_ne a).2, rfl, t, C, _, _, by omega, by omega, by omega, hk, y, o, l.mono zx⟩⟩

end Go.Proofs.Ytdhpalioifjfbaa

namespace Go.Gx
open Go.RowKit
section
variable {P : Program} {Q : Exit → Act → World → Prop} {a : Act} {w w' : World} {l : List (Nat × Value)} {ops : Array Oper} {rest : List Oper}
variable {d ty t e xt yt : Nat} {p : String} {af : Array Edge} {x y : Operand} {b off : Nat}
end
end Go.Gx

namespace Go.Gx
open Go.RowKit
section
variable {P : Program} {Q : Exit → Act → World → Prop} {a : Act} {w : World} {l : List (Nat × Value)} {ops : Array Oper} {rest : List Oper}
variable {d ty : Nat} {p : String} {af : Array Edge}
end
section
variable {K V : Type} {P : Program} {Q : Exit → Act → World → Prop} {a : Act} {w w' : World} {l : List (Nat × Value)} {ops : Array Oper} {rest : List Oper}
variable {ty mt kt et m : Nat} {p : String} {af : Array Edge} {x y : Operand} {kv : K → Value} {vv : V → Value} {es : List (K × V)} {k : K}
theorem op_mapdel0 [DecidableEq K] (ht : P.underlying mt = some (.map kt et)) (T : KeyT P kt kv) (hx : (putsL a l).eval x = .map (some m)) (hy : (putsL a l).eval y = kv k) (M : MapC kv vv w m es) (h : ∀ w', MapC kv vv w' m (mdel es k) → w.grownBy w' (some m) → wpList P ops Q rest (putsL a l) w') :
    wpList P ops Q (⟨none, .call ⟨.builtin .delete, #[x, y], #[mt, kt]⟩, ty, p, af, none⟩ :: rest) (putsL a l) w := by
  obtain ⟨w', hr, M', E⟩ := run_delete (P := P) (ty := ty) ht T M k
  exact op_gen (w' := w') (v := .tuple #[]) rfl (by simp [execOp, hx, hy, resolve, invoke, builtin, hr]) (h w' M' E)
end
end Go.Gx

namespace Go.Proofs.Ytdhpalioifjfbaa
open Go.Gx Go.RowKit
attribute [local irreducible] wpList wpStill Code.wp Calls

theorem drops_m {base k pm mm : Nat} {P : PM} {ps : List Nat} {M : AM} {nx : Int} {F0 : Nat → Prop} {w : World} (hbase : base ≤ w.heap.size) (hk : Bx w k 71 [.map (some pm), .int .i64 nx, .map (some mm)]) (hA : PgAll w base P ps F0) (hPm : MapC (.int .i64) pv w pm (esP P ps)) (hMm : MapC (.int .u64) plv w mm M) (hne : pm ≠ mm) {L : List By} {p9 : Nat} {at_ : Int × Int} (hg : mget P at_.1 = some L) (hp9 : mget (esP P ps) at_.1 = some p9) (hat : -9223372036854775808 ≤ at_.2 ∧ at_.2 ≤ 9223372036854775807)  : Ret Try.prog 47 #[(ptr k 0), (.agg #[(.int .i64 at_.1), (.int .i64 at_.2)])] w (fun v' w' => Gr w w' (fun x => x = pm ∨ F0 x) ∧ v' = .tuple #[] ∧ ∃ (P' : PM) (ps' : List Nat) (F0' : Nat → Prop), PgAll w' base P' ps' F0' ∧ MapC (.int .i64) pv w' pm (esP P' ps') ∧ DropsP P at_ P' ∧ NewF w.heap.size F0 F0') := by
 have hi_k := hk.lt
 have hi_pm := hPm.lt
 have hi_mm := hMm.lt
 have hps := hA.1
 have hes : esP (mput P at_.1 (dropN L at_.2)) ps = esP P ps := esP_mput hps hg
 have a : mget (mput P at_.1 (dropN L at_.2)) at_.1 = some (dropN L at_.2) := mget_put_same
 have b : mget (esP (mput P at_.1 (dropN L at_.2)) ps) at_.1 = some p9 := by rw [hes]; exact hp9
 have hsn := slotsI_len (dropN L at_.2) (dropN L at_.2).length
 have c := (hA.key hg)
 obtain ⟨j, d, g, e, f, _⟩ := c
 have c := e.fits
 have hb := Gr.refl w (fun x => x = pm ∨ F0 x)
 refine enter (N := 26) Try.func47 rfl rfl (by simp) fun c hN hd hA => ?_
 have e : c.tmps.getD 0 undef = (ptr k 0) := hA 0 (by simp)
 have f : c.tmps.getD 1 undef = (.agg #[(.int .i64 at_.1), (.int .i64 at_.2)]) := hA 1 (by simp)
 clear hA
 refine zF fun _ c => zH (op_box (cs := [(.int .i64 at_.1), (.int .i64 at_.2)]) (zC hN rfl f) rfl ?_)
 intro o j n l f g
 have l : ¬ F0 j := fun hf => by have := (hA.lt _ hf).2; omega
 obtain ⟨hb, _⟩ := yG hb g
 have hA := hA.kz g
 refine zB (c _ _ (zF fun _ c => reg_from mixed ?_))
 intro o n
 obtain ⟨hb, _⟩ := yG hb n
 have hk := (hk.keep0 g).keep0 n
 have hA := hA.kz n
 have hPm := (hPm.keep0 g).keep0 n
 have hMm := (hMm.keep0 g).keep0 n
 have f := f.keep0 n
 refine from_still (m := 6) 6 (hd := [_, _, _, _, _, _]) zy rfl rfl (st_step rfl (fun _ g => zG (zC hN rfl e) g) ?_)
 refine st_step rfl (fun _ g => op_nil (zA hN rfl) g) (st_step rfl (fun _ g => zM fld71_0 (zA hN rfl) g) (st_step rfl (fun _ g => zN one68 (zA hN rfl) (hk.cell rfl) g) (st_step rfl (fun _ g => zM fld80_0 (zA hN rfl) g) (st_step rfl (fun _ g => zN one3 (zA hN rfl) (f.cell rfl) g) (st_nil (from_seq (tl := [_, _]) zz zy rfl (op_look_hit (k := at_.1) (v := p9) Try.underlying68 (Go.Gx.key_int Try.underlying3) zero24 (zA hN rfl) (zA hN rfl) hPm hp9 (zD (zA hN rfl) (zB ?_)))))))))
 refine c _ _ (zF fun _ c => zH (zG (zA hN rfl) (zM fld80_1 (zA hN rfl) (zN one3 (zA hN rfl) (f.cell rfl) (zj ok13 (pa_drop hA hg hp9 zx at_.2 zx) ⟨(zA hN rfl), ⟨(zA hN rfl), trivial⟩⟩ ?_)))))
 rintro _ r ⟨n, rfl, d, o, p⟩
 have r := hk.lt
 have r := hPm.lt
 have r := hMm.lt
 have r := f.lt
 have hA_old := hA
 have := n.size
 have hk := hk.keepG n (hA_old.notBx hk zz zz)
 have hPm := hPm.keepG n (hA_old.notMap hPm)
 have hMm := hMm.keepG n (hA_old.notMap hMm)
 have f := f.keepG n l
 have hb := hb.stepF n (fun _ _ h => .inr h)
 have n : ¬ d j := ne_stepF p r l
 have j : NewF w.heap.size F0 d := NewF.trans (NewF.refl _ _) p zx
 refine zB (c _ _ (zF fun _ c => zH (zG (zA hN rfl) (zj ok12 (pa_slots o a b zx) ⟨(zA hN rfl), trivial⟩ ?_))))
 rintro t s ⟨d, l, r, b, p⟩
 have s := hk.lt
 have s := hPm.lt
 have s := hMm.lt
 have s := f.lt
 have s := l.mono (base' := w.heap.size) zx
 have t := o
 have := d.size
 have hk := hk.keepG d (t.notBx hk zz zz)
 have hPm := hPm.keepG d (t.notMap hPm)
 have f := f.keepG d n
 have hb := hb.stepF d (fun y hy g => .inr ((j y g).resolve_right zx))
 have d : NewF w.heap.size F0 r := NewF.trans j p zx
 have l := s
 refine op_len_rd Try.underlying29 (zA hN rfl) l.rdw (op_eql (zA hN rfl) rfl (fun j => ?_) (fun j => ?_))
 ·
  refine zB (c _ _ (wp_cond_true (zA hN rfl) (reg_from mixed ?_)))
  intro n l
  obtain ⟨hb, _⟩ := yG hb l
  have hk := hk.keep0 l
  have hPm := hPm.keep0 l
  have f := f.keep0 l
  have b := b.kz l
  refine from_still (m := 6) 6 (hd := [_, _, _, _, _, _]) zy rfl rfl (st_step rfl (fun _ g => zG (zC hN rfl e) g) (st_step rfl (fun _ g => op_nil (zA hN rfl) g) (st_step rfl (fun _ g => zM fld71_0 (zA hN rfl) g) (st_step rfl (fun _ g => zN one68 (zA hN rfl) (hk.cell rfl) g) (st_step rfl (fun _ g => zM fld80_0 (zA hN rfl) g) (st_step rfl (fun _ g => zN one3 (zA hN rfl) (f.cell rfl) g) (st_nil (from_seq (tl := [_]) zz zy rfl ?_))))))))
  have hPm_old := hPm
  refine op_mapdel0 (k := at_.1) Try.underlying68 (Go.Gx.key_int Try.underlying3) (zA hN rfl) (zA hN rfl) hPm ?_
  intro g f e
  have := e.size
  have b := b.keepG (Gr.of e) (Dj.one (b.notMap hPm_old))
  have hb := hb.stepB e (.inl rfl)
  refine zB (end_ret (ret0 rfl hd  ⟨_, rfl, ?_⟩))
  have e : mput (mput P at_.1 (dropN L at_.2)) at_.1 (dropN L at_.2) = mput P at_.1 (dropN L at_.2) := mput_same a
  have g := b
  rw [e] at g
  have l : (slotsI (dropN L at_.2) (dropN L at_.2).length) = [] := List.eq_nil_of_length_eq_zero zx
  obtain ⟨s, p, n, r, o⟩ := g.del a
  have t := f
  rw [← hes, o] at t
  have f : mdel (mput P at_.1 (dropN L at_.2)) at_.1 = mdel P at_.1 := mdel_mput hg
  rw [f] at t n
  exact ⟨hb, rfl, _, s, p, n, t, ⟨L, hg, .inl ⟨l, rfl⟩⟩, fun x hx => d x (r x hx)⟩
 refine zB (c _ _ (wp_cond_false (zA hN rfl) (wp_skip (end_ret (ret0 rfl hd  ⟨_, rfl, ?_⟩)))))
 have e : mput (mput P at_.1 (dropN L at_.2)) at_.1 (dropN L at_.2) = mput P at_.1 (dropN L at_.2) := mput_same a
 have g := b
 rw [e] at g
 have t := hPm
 rw [← hes] at t
 exact ⟨hb, rfl, _, ps, _, g, t, ⟨L, hg, .inr ⟨fun q => j (by rw [q]; rfl), rfl⟩⟩, d⟩

end Go.Proofs.Ytdhpalioifjfbaa

namespace Go.Proofs.Ytdhpalioifjfbaa
open Go.Gx Go.RowKit
def PutZ (P : PM) (nx : Int) (M : AM) (id : Int) (r : By) (e : Int) (P' : PM) (nx' : Int) (M' : AM) : Prop :=
  0 ≤ nx' ∧ nx' ≤ nx + 1 ∧ M'.length ≤ M.length + 1 ∧ HInv P' nx' M' ∧ ((badB r = true ∧ e = 7 ∧ recs P' M' = recs P M) ∨ (badB r = false ∧ e = 0 ∧ recs P' M' = mput (recs P M) id r))
theorem mput_len {K V : Type} [DecidableEq K] {es : List (K × V)} {k : K} {v : V} : (mput es k v).length ≤ es.length + 1 := by
  unfold mput; split <;> simp
theorem mdel_len {K V : Type} [DecidableEq K] {es : List (K × V)} {k : K} : (mdel es k).length ≤ es.length := (mdel_keys_sub (es := es) (k := k)).length_le
section
variable {P P' P2 : PM} {M : AM} {nx nx' id e : Int} {r : By} {to at_ : Int × Int} {L : List By} {ps : List Nat} {w : World} {base : Nat} {F : Nat → Prop}
theorem PutZ.of_bad (h : PutsP P nx r e to P' nx') (he : e ≠ 0) (hI : HInv P nx M) (hn : 0 ≤ nx) : PutZ P nx M id r e P' nx' M := by
  rcases h with ⟨hb, h1, rfl, rfl⟩ | ⟨_, h1, _⟩
  · exact ⟨hn, by omega, by omega, hI, .inl ⟨hb, h1, rfl⟩⟩
  · exact absurd h1 he
theorem PutsP.good (h : PutsP P nx r e to P' nx') (he : e = 0) : badB r = false := by
  rcases h with ⟨_, h1, _⟩ | ⟨hb, _⟩
  · rw [he] at h1; exact absurd h1 (by decide)
  · exact hb
theorem PutZ.new (h : PutsP P nx r e to P' nx') (he : e = 0) (hI : HInv P nx M) (hn : 0 ≤ nx) (hm : mget M id = none) : PutZ P nx M id r 0 P' nx' (mput M id to) := by
  have hb := h.good he
  have h1 := puts_new h hI hn hb hm
  have h2 := h.num hn
  exact ⟨h2.1, h2.2.2, mput_len, h1.1, .inr ⟨hb, rfl, h1.2⟩⟩
theorem PutZ.old (h : PutsP P nx r e to P' nx') (he : e = 0) (hI : HInv P nx M) (hn : 0 ≤ nx) (hm : mget M id = some at_) (hD : DropsP P' at_ P2) : PutZ P nx M id r 0 P2 nx' (mput M id to) := by
  have hb := h.good he
  have h1 := puts_old h hI hn hb hm hD
  have h2 := h.num hn
  exact ⟨h2.1, h2.2.2, mput_len, h1.1, .inr ⟨hb, rfl, h1.2⟩⟩
theorem PutZ.set (hI : HInv P nx M) (hn : 0 ≤ nx) (hm : mget M id = some at_) (hg : mget P at_.1 = some L) (hz : setE L at_.2 r = 0) : PutZ P nx M id r 0 (mput P at_.1 (setN L at_.2 r)) nx M := by
  have h1 := set_done hI hm hg hz
  exact ⟨hn, by omega, by omega, h1.1, .inr ⟨setE_bad hz, rfl, h1.2⟩⟩
theorem HInv.page (h : HInv P nx M) (hm : mget M id = some at_) : ∃ L, mget P at_.1 = some L := by
  have := gH_key (h.key hm).2
  exact mget_in this
theorem at_rng (hg : mget P at_.1 = some L) (hat : gH P at_ ≠ []) : 0 ≤ at_.2 ∧ at_.2 < (L.length : Int) := by
  have hpA : pAt P at_.1 = L := by unfold pAt; rw [hg]; rfl
  have hz : sizeL L at_.2 ≠ 0 := fun q => hat (by unfold gH; rw [hpA]; exact size_get.1 q)
  exact sizeL_nat hz
theorem PutsP.still (h : PutsP P nx r e to P' nx') (he : e = 0) (hI : HInv P nx M) (hn : 0 ≤ nx) (hm : mget M id = some at_) : (∃ L, mget P' at_.1 = some L) ∧ gH P' at_ ≠ [] := by
  have hb := h.good he
  obtain ⟨h1, h2, h3, h4, h5, _⟩ := h.get hI hn hb
  have hat := (hI.key hm).2
  have hne : at_ ≠ to := fun q => hat (by rw [q]; exact h1)
  have hg : gH P' at_ ≠ [] := by rw [h4, if_neg hne]; exact hat
  exact ⟨mget_in (gH_key hg), hg⟩
theorem gH_at (hg : mget P at_.1 = some L) : gH P at_ = getL L at_.2 := by unfold gH pAt; rw [hg]; rfl
theorem drop_get (hI : HInv P nx M) (hm : mget M id = some at_) (hg : mget P at_.1 = some L) : dropE L at_.2 = 0 ∧ mget (recs P M) id = some (getL L at_.2) := by
  have hat := (hI.key hm).2
  rw [gH_at hg] at hat
  refine ⟨(drop_ok fun q => hat (size_get.1 q)).1, ?_⟩
  rw [recs_get, hm]; exact congrArg some (gH_at hg)
theorem recs_none (hm : mget M id = none) : mget (recs P M) id = none := by rw [recs_get, hm]; rfl
end
end Go.Proofs.Ytdhpalioifjfbaa

namespace Go.Proofs.Ytdhpalioifjfbaa
open Go.Gx Go.RowKit
attribute [local irreducible] wpList wpStill Code.wp Calls

theorem puts_nb {base k : Nat} {nx : Int} {w : World} (hbase : base ≤ w.heap.size) (hk : Bx w k 71 [.map none, .int .i64 nx, .map none]) (hn0 : 0 ≤ nx) (hnx : nx ≤ 1000000) {r : By} {bv : Value} {Lo Bo : Nat} (hbr : RdC w Lo Bo 1 bv r.length (r.map u8v)) (hBw : Bo ≤ w.heap.size) (hbad : badB r = true) : Ret Try.prog 46 #[ptr k 0, bv] w (fun v' w' => Gr w w' (fun x => x = k) ∧ v' = .tuple #[plv (0, 0), .int .i64 7] ∧ Bx w' k 71 [.map none, .int .i64 nx, .map none]) :=
  (puts_n hbase hk hn0 hnx hbr hBw).mono fun v' w' ⟨E, q⟩ => q.elim (fun q => ⟨E, q.2⟩) fun q => absurd (q.1.symm.trans hbad) (by decide)
theorem puts_ng {base k : Nat} {nx : Int} {w : World} (hbase : base ≤ w.heap.size) (hk : Bx w k 71 [.map none, .int .i64 nx, .map none]) (hn0 : 0 ≤ nx) (hnx : nx ≤ 1000000) {r : By} {bv : Value} {Lo Bo : Nat} (hbr : RdC w Lo Bo 1 bv r.length (r.map u8v)) (hBw : Bo ≤ w.heap.size) (hbad : badB r = false) : Ret Try.prog 46 #[ptr k 0, bv] w (fun v' w' => Gr w w' (fun x => x = k) ∧ v' = .tuple #[plv (nx + 1, putK [] r), .int .i64 0] ∧ ∃ (pm mm p : Nat) (F1 : Nat → Prop), w.heap.size ≤ pm ∧ w.heap.size ≤ mm ∧ pm ≠ mm ∧ Bx w' k 71 [.map (some pm), .int .i64 (nx + 1), .map (some mm)] ∧ MapC (Value.int .i64) pv w' pm [(nx + 1, p)] ∧ MapC (Value.int .u64) plv w' mm [] ∧ PageR w' w.heap.size p (putN [] r) F1) :=
  (puts_n hbase hk hn0 hnx hbr hBw).mono fun v' w' ⟨E, q⟩ => q.elim (fun q => absurd (q.1.symm.trans hbad) (by decide)) fun q => ⟨E, q.2⟩

theorem HPut_nb {r : By} {base k : Nat} {nx : Int} {w : World} (hbase : base ≤ w.heap.size) (hk : Bx w k 71 [.map none, .int .i64 nx, .map none]) {id : Int} (hn0 : 0 ≤ nx) (hnx : nx ≤ 1000000) (hbad : badB r = true) {bv : Value} {Lo Bo : Nat} (hbr : RdC w Lo Bo 1 bv r.length (r.map u8v)) (hBw : Bo ≤ w.heap.size)  : Ret Try.prog 28 #[(ptr k 0), (.int .u64 id), bv] w (fun v' w' => Gr w w' (fun x => x = k) ∧ v' = .int .i64 7 ∧ Bx w' k 71 [.map none, .int .i64 nx, .map none]) := by
 have hi_k := hk.lt
 have hb := Gr.refl w (fun x => x = k)
 refine enter (N := 56) Try.func28 rfl rfl (by simp) fun a hN hd hA => ?_
 have c : a.tmps.getD 0 undef = (ptr k 0) := hA 0 (by simp)
 have d : a.tmps.getD 1 undef = (.int .u64 id) := hA 1 (by simp)
 have e : a.tmps.getD 2 undef = bv := hA 2 (by simp)
 clear hA
 refine zF fun _ a => ?_
 refine zH (zD rfl (zB (a _ _ (zF fun _ a => zF fun _ f => zH (zG (zC hN rfl c) (op_peq_some ptrt53 (zA hN rfl) rfl (zB (f _ _ (wp_cond_false (zA hN rfl) (wp_skip (a _ _ (zF fun _ a => ?_))))))))))))
 refine zH (zG (zC hN rfl c) (op_nil (zA hN rfl) (zM fld71_2 (zA hN rfl) (zN one69 (zA hN rfl) (hk.cell rfl) (zG (zC hN rfl d) (op_look2_nil (k := id) Try.underlying69 (Go.Gx.key_int Try.underlying57) zero80 (zA hN rfl) (zA hN rfl) (zG (zA hN rfl) (zW (zA hN rfl) rfl (zW (zA hN rfl) rfl (op_alloc (cs := [(.int .i64 0), (.int .i64 0)]) zero80 rfl ?_))))))))))
 intro o l n m g d
 obtain ⟨hb, _⟩ := yG hb d
 have hk := hk.keep0 d
 have m := g
 refine zZ size80 (zA hN rfl) (zA hN rfl) rfl rfl g rfl ?_
 intro n g o
 have := o.size
 have hk := hk.keep o (sN hk m)
 have hbr := (hbr.keep0 d).keep o sO
 have hb := hb.step1 o zx
 refine zD (zA hN rfl) (zB (a _ _ (zF fun _ a => zF fun _ f => reg_split (hd := [_, _, _, _, _, _, _, _, _, _, _, _]) (tl := _) 12 mixed zy rfl rfl (any_quiet (Φ := phiL [(fun uz _ => uz = (.bool false)), (fun uz _ => uz = (.bool false)), (fun uz _ => uz = undef), (fun uz _ => uz = undef), (fun uz _ => uz = undef), (fun uz _ => uz = undef), (fun uz _ => uz = undef), (fun uz _ => uz = undef), (fun uz _ => uz = undef), (fun uz _ => uz = undef), (fun uz _ => uz = undef), (fun uz _ => uz = undef)]) zy zy zy hN (StL.get (StL.eq (StL.eq (StL.eq (StL.eq (StL.eq (StL.eq (StL.eq (StL.eq (StL.eq (StL.eq (StL.eq (StL.eq (StL.nil _)))))))))))))) (ObL.get (s := 12) (ObL.cons ?_ (ObL.cons ?_ (ObL.cons ?_ (ObL.cons ?_ (ObL.cons ?_ (ObL.cons ?_ (ObL.cons ?_ (ObL.cons ?_ (ObL.cons ?_ (ObL.cons ?_ (ObL.cons ?_ (ObL.cons ?_ (ObL.nil))))))))))))) rfl) ?_))))
 ·
  intro aA wA hNA hRA hbsA hdpA
  have d := (hbsA 8 rfl).trans (zU hN rfl)
  refine zG (zC hNA rfl d) ?_
  exact obN_end rfl rfl (grown_refl _ _)
 ·
  intro aA wA hNA hRA hbsA hdpA
  have d : Sl aA 22 (.bool false) := hdpA 0 _ 22 zy rfl rfl
  refine zG (zC hNA rfl d) ?_
  exact obN_end rfl rfl (grown_refl _ _)
 ·
  intro aA wA hNA hRA hbsA hdpA
  have d : Sl aA 23 (.bool false) := hdpA 1 _ 23 zy rfl rfl
  refine zR (j := 1) (dj := 23) (b := true) rfl rfl rfl (zC hNA rfl d) rfl rfl ?_
  exact obN_end rfl rfl (grown_refl _ _)
 ·
  intro aA wA hNA hRA hbsA hdpA
  have g : Sl aA 24 undef := hdpA 2 _ 24 zy rfl rfl
  have d : Sl aA 23 (.bool false) := hdpA 1 _ 23 zy rfl rfl
  refine zR (j := 1) (dj := 23) (b := true) rfl rfl rfl (zC hNA rfl d) rfl rfl ?_
  exact obN_end rfl rfl (grown_refl _ _)
 ·
  intro aA wA hNA hRA hbsA hdpA
  have g : Sl aA 25 undef := hdpA 3 _ 25 zy rfl rfl
  have d : Sl aA 23 (.bool false) := hdpA 1 _ 23 zy rfl rfl
  refine zR (j := 1) (dj := 23) (b := true) rfl rfl rfl (zC hNA rfl d) rfl rfl ?_
  exact obN_end rfl rfl (grown_refl _ _)
 ·
  intro aA wA hNA hRA hbsA hdpA
  have hRA : n.grownBy wA none := hRA
  have := hRA.size
  have g : Sl aA 26 undef := hdpA 4 _ 26 zy rfl rfl
  have d : Sl aA 23 (.bool false) := hdpA 1 _ 23 zy rfl rfl
  clear hbsA hdpA
  refine zR (j := 1) (dj := 23) (b := true) rfl rfl rfl (zC hNA rfl d) rfl rfl ?_
  exact obN_end rfl rfl (grown_refl _ _)
 ·
  intro aA wA hNA hRA hbsA hdpA
  have d : Sl aA 23 (.bool false) := hdpA 1 _ 23 zy rfl rfl
  refine zR (j := 1) (dj := 23) (b := true) rfl rfl rfl (zC hNA rfl d) rfl rfl ?_
  exact obN_end rfl rfl (grown_refl _ _)
 ·
  intro aA wA hNA hRA hbsA hdpA
  have hRA : n.grownBy wA none := hRA
  have := hRA.size
  have g : Sl aA 28 undef := hdpA 6 _ 28 zy rfl rfl
  have d : Sl aA 23 (.bool false) := hdpA 1 _ 23 zy rfl rfl
  clear hbsA hdpA
  refine zR (j := 1) (dj := 23) (b := true) rfl rfl rfl (zC hNA rfl d) rfl rfl ?_
  exact obN_end rfl rfl (grown_refl _ _)
 ·
  intro aA wA hNA hRA hbsA hdpA
  have hRA : n.grownBy wA none := hRA
  have := hRA.size
  have g : Sl aA 27 undef := hdpA 5 _ 27 zy rfl rfl
  have g : Sl aA 29 undef := hdpA 7 _ 29 zy rfl rfl
  have d : Sl aA 23 (.bool false) := hdpA 1 _ 23 zy rfl rfl
  clear hbsA hdpA
  refine zR (j := 1) (dj := 23) (b := true) rfl rfl rfl (zC hNA rfl d) rfl rfl ?_
  exact obN_end rfl rfl (grown_refl _ _)
 ·
  intro aA wA hNA hRA hbsA hdpA
  have d : Sl aA 23 (.bool false) := hdpA 1 _ 23 zy rfl rfl
  refine zR (j := 1) (dj := 23) (b := true) rfl rfl rfl (zC hNA rfl d) rfl rfl ?_
  exact obN_end rfl rfl (grown_refl _ _)
 ·
  intro aA wA hNA hRA hbsA hdpA
  have hRA : n.grownBy wA none := hRA
  have := hRA.size
  have g : Sl aA 31 undef := hdpA 9 _ 31 zy rfl rfl
  have d : Sl aA 23 (.bool false) := hdpA 1 _ 23 zy rfl rfl
  clear hbsA hdpA
  refine zR (j := 1) (dj := 23) (b := true) rfl rfl rfl (zC hNA rfl d) rfl rfl ?_
  exact obN_end rfl rfl (grown_refl _ _)
 ·
  intro aA wA hNA hRA hbsA hdpA
  have d : Sl aA 23 (.bool false) := hdpA 1 _ 23 zy rfl rfl
  refine zR (j := 1) (dj := 23) (b := true) rfl rfl rfl (zC hNA rfl d) rfl rfl ?_
  exact obN_end rfl rfl (grown_refl _ _)
 intro o t d q p g m
 have q := q.trans hd
 have u := (p 0 rfl).trans (zL hN rfl c)
 have c := (p 2 rfl).trans (zL hN rfl e)
 have e : Sl o 23 (.bool false) := g 1 _ 23 rfl rfl
 have y : Sl o 30 undef := g 8 _ 30 rfl rfl
 have y : Sl o 32 undef := g 10 _ 32 rfl rfl
 have y : Sl o 33 undef := g 11 _ 33 rfl rfl
 clear p g
 have m : n.grownBy t none := m
 obtain ⟨hb, _⟩ := yG hb m
 have hk := hk.keep0 m
 have hbr := hbr.keep0 m
 refine split_end (from_seq (tl := [_, _, _]) zz zy rfl (zR (j := 1) (dj := 23) (b := true) rfl rfl rfl (zC d rfl e) rfl rfl (zR (j := 1) (dj := 23) (b := true) rfl rfl rfl (zC d rfl e) rfl rfl (zd (zC d rfl e) rfl ?_))))
 refine zB (f _ _ (wp_cond_false (zA d rfl) (wp_skip (a _ _ (zF fun _ a => zH (zG (zC d rfl u) (zG (zC d rfl c) (zj ok46 (puts_nb (base := 0) (Nat.zero_le _) hk hn0 hnx hbr zx hbad) ⟨(zA d rfl), ⟨(zA d rfl), trivial⟩⟩ ?_))))))))
 rintro _ g ⟨e, rfl, c⟩
 have g : ¬ (fun x => x = k) l := (by show ¬ _ = _; omega)
 have := e.size
 have hb := hb.stepF e (fun _ _ h => h)
 refine zG (zA d rfl) (zW (zA d rfl) rfl (zW (zA d rfl) rfl (op_alloc (cs := [(.int .i64 0), (.int .i64 0)]) zero80 rfl ?_)))
 intro o m l n e g
 obtain ⟨hb, _⟩ := yG hb g
 have c := c.keep0 g
 have g := e
 refine zZ size80 (zA d rfl) (zA d rfl) rfl rfl e rfl ?_
 intro m e l
 have := l.size
 have c := c.keep l (sN c g)
 have hb := hb.step1 l zx
 refine zD (zA d rfl) (zB (a _ _ (zF fun _ a => zF fun _ f => ?_)))
 refine zH (zG (zA d rfl) (op_bin (v := .bool true) (zA d rfl) rfl (by rw [binOp_neq]; rfl) (zB (f _ _ (wp_cond_true (zA d rfl) (zF fun _ f => zH (zG (zA d rfl) (zD (zA d rfl) (zB (f _ _ (wp_ret (zO ( (ret1 rfl q (zA d rfl) ⟨_, rfl, ?_⟩))))))))))))))
 exact ⟨hb, rfl, c⟩

theorem HPut_ng {r : By} {base k : Nat} {nx : Int} {w : World} (hbase : base ≤ w.heap.size) (hk : Bx w k 71 [.map none, .int .i64 nx, .map none]) {id : Int} (hn0 : 0 ≤ nx) (hnx : nx ≤ 1000000) (hbad : badB r = false) {bv : Value} {Lo Bo : Nat} (hbr : RdC w Lo Bo 1 bv r.length (r.map u8v)) (hBw : Bo ≤ w.heap.size)  : Ret Try.prog 28 #[(ptr k 0), (.int .u64 id), bv] w (fun v' w' => Gr w w' (fun x => x = k) ∧ v' = .int .i64 0 ∧ ∃ (pm mm p : Nat) (F1 : Nat → Prop), w.heap.size ≤ pm ∧ w.heap.size ≤ mm ∧ pm ≠ mm ∧ Bx w' k 71 [.map (some pm), .int .i64 (nx + 1), .map (some mm)] ∧ MapC (.int .i64) pv w' pm [(nx + 1, p)] ∧ MapC (.int .u64) plv w' mm [(id, (nx + 1, putK [] r))] ∧ PageR w' w.heap.size p (putN [] r) F1) := by
 have hi_k := hk.lt
 have hb := Gr.refl w (fun x => x = k)
 refine enter (N := 56) Try.func28 rfl rfl (by simp) fun a hN hd hA => ?_
 have c : a.tmps.getD 0 undef = (ptr k 0) := hA 0 (by simp)
 have d : a.tmps.getD 1 undef = (.int .u64 id) := hA 1 (by simp)
 have e : a.tmps.getD 2 undef = bv := hA 2 (by simp)
 clear hA
 refine zF fun _ a => ?_
 refine zH (zD rfl (zB (a _ _ (zF fun _ a => zF fun _ f => zH (zG (zC hN rfl c) (op_peq_some ptrt53 (zA hN rfl) rfl (zB (f _ _ (wp_cond_false (zA hN rfl) (wp_skip (a _ _ (zF fun _ a => ?_))))))))))))
 refine zH (zG (zC hN rfl c) (op_nil (zA hN rfl) (zM fld71_2 (zA hN rfl) (zN one69 (zA hN rfl) (hk.cell rfl) (zG (zC hN rfl d) (op_look2_nil (k := id) Try.underlying69 (Go.Gx.key_int Try.underlying57) zero80 (zA hN rfl) (zA hN rfl) (zG (zA hN rfl) (zW (zA hN rfl) rfl (zW (zA hN rfl) rfl (op_alloc (cs := [(.int .i64 0), (.int .i64 0)]) zero80 rfl ?_))))))))))
 intro o n t q l g
 obtain ⟨hb, _⟩ := yG hb g
 have hk := hk.keep0 g
 have o := l
 refine zZ size80 (zA hN rfl) (zA hN rfl) rfl rfl l rfl ?_
 intro q l t
 have := t.size
 have hk := hk.keep t (sN hk o)
 have hbr := (hbr.keep0 g).keep t sO
 have hb := hb.step1 t zx
 refine zD (zA hN rfl) (zB (a _ _ (zF fun _ a => zF fun _ f => reg_split (hd := [_, _, _, _, _, _, _, _, _, _, _, _]) (tl := _) 12 mixed zy rfl rfl (any_quiet (Φ := phiL [(fun uz _ => uz = (.bool false)), (fun uz _ => uz = (.bool false)), (fun uz _ => uz = undef), (fun uz _ => uz = undef), (fun uz _ => uz = undef), (fun uz _ => uz = undef), (fun uz _ => uz = undef), (fun uz _ => uz = undef), (fun uz _ => uz = undef), (fun uz _ => uz = undef), (fun uz _ => uz = undef), (fun uz _ => uz = undef)]) zy zy zy hN (StL.get (StL.eq (StL.eq (StL.eq (StL.eq (StL.eq (StL.eq (StL.eq (StL.eq (StL.eq (StL.eq (StL.eq (StL.eq (StL.nil _)))))))))))))) (ObL.get (s := 12) (ObL.cons ?_ (ObL.cons ?_ (ObL.cons ?_ (ObL.cons ?_ (ObL.cons ?_ (ObL.cons ?_ (ObL.cons ?_ (ObL.cons ?_ (ObL.cons ?_ (ObL.cons ?_ (ObL.cons ?_ (ObL.cons ?_ (ObL.nil))))))))))))) rfl) ?_))))
 ·
  intro aA wA hNA hRA hbsA hdpA
  have g := (hbsA 8 rfl).trans (zU hN rfl)
  refine zG (zC hNA rfl g) ?_
  exact obN_end rfl rfl (grown_refl _ _)
 ·
  intro aA wA hNA hRA hbsA hdpA
  have g : Sl aA 22 (.bool false) := hdpA 0 _ 22 zy rfl rfl
  refine zG (zC hNA rfl g) ?_
  exact obN_end rfl rfl (grown_refl _ _)
 ·
  intro aA wA hNA hRA hbsA hdpA
  have g : Sl aA 23 (.bool false) := hdpA 1 _ 23 zy rfl rfl
  refine zR (j := 1) (dj := 23) (b := true) rfl rfl rfl (zC hNA rfl g) rfl rfl ?_
  exact obN_end rfl rfl (grown_refl _ _)
 ·
  intro aA wA hNA hRA hbsA hdpA
  have l : Sl aA 24 undef := hdpA 2 _ 24 zy rfl rfl
  have g : Sl aA 23 (.bool false) := hdpA 1 _ 23 zy rfl rfl
  refine zR (j := 1) (dj := 23) (b := true) rfl rfl rfl (zC hNA rfl g) rfl rfl ?_
  exact obN_end rfl rfl (grown_refl _ _)
 ·
  intro aA wA hNA hRA hbsA hdpA
  have l : Sl aA 25 undef := hdpA 3 _ 25 zy rfl rfl
  have g : Sl aA 23 (.bool false) := hdpA 1 _ 23 zy rfl rfl
  refine zR (j := 1) (dj := 23) (b := true) rfl rfl rfl (zC hNA rfl g) rfl rfl ?_
  exact obN_end rfl rfl (grown_refl _ _)
 ·
  intro aA wA hNA hRA hbsA hdpA
  have hRA : q.grownBy wA none := hRA
  have := hRA.size
  have l : Sl aA 26 undef := hdpA 4 _ 26 zy rfl rfl
  have g : Sl aA 23 (.bool false) := hdpA 1 _ 23 zy rfl rfl
  clear hbsA hdpA
  refine zR (j := 1) (dj := 23) (b := true) rfl rfl rfl (zC hNA rfl g) rfl rfl ?_
  exact obN_end rfl rfl (grown_refl _ _)
 ·
  intro aA wA hNA hRA hbsA hdpA
  have g : Sl aA 23 (.bool false) := hdpA 1 _ 23 zy rfl rfl
  refine zR (j := 1) (dj := 23) (b := true) rfl rfl rfl (zC hNA rfl g) rfl rfl ?_
  exact obN_end rfl rfl (grown_refl _ _)
 ·
  intro aA wA hNA hRA hbsA hdpA
  have hRA : q.grownBy wA none := hRA
  have := hRA.size
  have l : Sl aA 28 undef := hdpA 6 _ 28 zy rfl rfl
  have g : Sl aA 23 (.bool false) := hdpA 1 _ 23 zy rfl rfl
  clear hbsA hdpA
  refine zR (j := 1) (dj := 23) (b := true) rfl rfl rfl (zC hNA rfl g) rfl rfl ?_
  exact obN_end rfl rfl (grown_refl _ _)
 ·
  intro aA wA hNA hRA hbsA hdpA
  have hRA : q.grownBy wA none := hRA
  have := hRA.size
  have l : Sl aA 27 undef := hdpA 5 _ 27 zy rfl rfl
  have l : Sl aA 29 undef := hdpA 7 _ 29 zy rfl rfl
  have g : Sl aA 23 (.bool false) := hdpA 1 _ 23 zy rfl rfl
  clear hbsA hdpA
  refine zR (j := 1) (dj := 23) (b := true) rfl rfl rfl (zC hNA rfl g) rfl rfl ?_
  exact obN_end rfl rfl (grown_refl _ _)
 ·
  intro aA wA hNA hRA hbsA hdpA
  have g : Sl aA 23 (.bool false) := hdpA 1 _ 23 zy rfl rfl
  refine zR (j := 1) (dj := 23) (b := true) rfl rfl rfl (zC hNA rfl g) rfl rfl ?_
  exact obN_end rfl rfl (grown_refl _ _)
 ·
  intro aA wA hNA hRA hbsA hdpA
  have hRA : q.grownBy wA none := hRA
  have := hRA.size
  have l : Sl aA 31 undef := hdpA 9 _ 31 zy rfl rfl
  have g : Sl aA 23 (.bool false) := hdpA 1 _ 23 zy rfl rfl
  clear hbsA hdpA
  refine zR (j := 1) (dj := 23) (b := true) rfl rfl rfl (zC hNA rfl g) rfl rfl ?_
  exact obN_end rfl rfl (grown_refl _ _)
 ·
  intro aA wA hNA hRA hbsA hdpA
  have g : Sl aA 23 (.bool false) := hdpA 1 _ 23 zy rfl rfl
  refine zR (j := 1) (dj := 23) (b := true) rfl rfl rfl (zC hNA rfl g) rfl rfl ?_
  exact obN_end rfl rfl (grown_refl _ _)
 intro u z g y o t l
 have y := y.trans hd
 have A := (o 0 rfl).trans (zL hN rfl c)
 have c := (o 1 rfl).trans (zL hN rfl d)
 have d := (o 2 rfl).trans (zL hN rfl e)
 have e := (o 8 rfl).trans (zU hN rfl)
 have B : Sl u 23 (.bool false) := t 1 _ 23 rfl rfl
 have C : Sl u 30 undef := t 8 _ 30 rfl rfl
 have C : Sl u 32 undef := t 10 _ 32 rfl rfl
 have C : Sl u 33 undef := t 11 _ 33 rfl rfl
 clear o t
 have l : q.grownBy z none := l
 obtain ⟨hb, _⟩ := yG hb l
 have hk := hk.keep0 l
 have hbr := hbr.keep0 l
 refine split_end (from_seq (tl := [_, _, _]) zz zy rfl (zR (j := 1) (dj := 23) (b := true) rfl rfl rfl (zC g rfl B) rfl rfl (zR (j := 1) (dj := 23) (b := true) rfl rfl rfl (zC g rfl B) rfl rfl (zd (zC g rfl B) rfl ?_))))
 refine zB (f _ _ (wp_cond_false (zA g rfl) (wp_skip (a _ _ (zF fun _ a => zH (zG (zC g rfl A) (zG (zC g rfl d) (zj ok46 (puts_ng (base := 0) (Nat.zero_le _) hk hn0 hnx hbr zx hbad) ⟨(zA g rfl), ⟨(zA g rfl), trivial⟩⟩ ?_))))))))
 rintro _ C ⟨t, rfl, z, B, F, u, E, D, hne, l, q, o, d⟩
 have C : ¬ (fun x => x = k) n := (by show ¬ _ = _; omega)
 have := t.size
 have hb := hb.stepF t (fun _ _ h => h)
 have n : ∀ x, u x → w.heap.size ≤ x := fun x hx => by have := (d.lt x hx).1; omega
 have d := d.mono (base' := w.heap.size) zx
 refine zG (zA g rfl) (zW (zA g rfl) rfl (zW (zA g rfl) rfl (op_alloc (cs := [(.int .i64 0), (.int .i64 0)]) zero80 rfl ?_)))
 intro D C E F n t
 have D : ¬ u C := fun hf => by have := (d.lt _ hf).2; omega
 obtain ⟨hb, _⟩ := yG hb t
 have l := l.keep0 t
 have u := n
 refine zZ size80 (zA g rfl) (zA g rfl) rfl rfl n rfl ?_
 intro E n C
 have := C.size
 have l := l.keep C (sN l u)
 have d := (d.kz t).keepG (Gr.of C) (Dj.one D)
 have hb := hb.step1 C zx
 refine zD (zA g rfl) (zB (a _ _ (zF fun _ a => zF fun _ f => ?_)))
 refine zH (zG (zA g rfl) (op_bin (v := .bool false) (zA g rfl) rfl (by rw [binOp_neq]; rfl) (zB (f _ _ (wp_cond_false (zA g rfl) (wp_skip (a _ _ (zF fun _ a => zF fun _ f => zH (zG (zC g rfl e) (zB (f _ _ (wp_cond_false (zA g rfl) (wp_skip (a _ _ (zF fun _ a => reg_from mixed ?_)))))))))))))))
 intro f e
 obtain ⟨hb, _⟩ := yG hb e
 have l := l.keep0 e
 have o := ((o.keep0 t).keepB u C).keep0 e
 have d := d.kz e
 have n := n.keep0 e
 refine from_still (m := 6) 6 (hd := [_, _, _, _, _, _]) zy rfl rfl (st_step rfl (fun _ f => zG (zC g rfl A) f) (st_step rfl (fun _ f => op_nil (zA g rfl) f) (st_step rfl (fun _ f => zM fld71_2 (zA g rfl) f) (st_step rfl (fun _ f => zN one69 (zA g rfl) (l.cell rfl) f) (st_step rfl (fun _ f => zG (zC g rfl c) f) (st_step rfl (fun _ f => zY agg80 rfl (zA g rfl) n f) (st_nil (from_seq (tl := [_]) zz zy rfl ?_))))))))
 have c := o
 refine op_mapput (k := id) (v := ((nx + 1), (putK [] r))) Try.underlying69 (Go.Gx.key_int Try.underlying57) (zA g rfl) (zA g rfl) (zA g rfl) o ?_
 intro o n f
 have := f.size
 have l := l.keepM c f
 have q := (((q.keep0 t).keepB u C).keep0 e).keep f sB
 have d := d.keepG (Gr.of f) (Dj.one (d.notMap c))
 have hb := hb.step1 f zx
 refine zB (a _ _ (zF fun _ a => zH (zD rfl (zB (a _ _ (wp_ret (ret1 rfl y (zA g rfl) ⟨_, rfl, ?_⟩)))))))
 exact ⟨hb, rfl, z, B, _, _, by omega, by omega, hne, l, q, n, d⟩

theorem HPut_miss {id : Int} {base k pm mm : Nat} {P : PM} {ps : List Nat} {M : AM} {nx : Int} {F0 : Nat → Prop} {w : World} (hbase : base ≤ w.heap.size) (hk : Bx w k 71 [.map (some pm), .int .i64 nx, .map (some mm)]) (hA : PgAll w base P ps F0) (hPm : MapC (.int .i64) pv w pm (esP P ps)) (hMm : MapC (.int .u64) plv w mm M) (hne : pm ≠ mm) (hI : HInv P nx M) (hnx : nx ≤ 1000000) (hn0 : 0 ≤ nx) (hPl : P.length ≤ 1000000) (hm : mget M id = none) {r : By} {bv : Value} {Lo Bo : Nat} (hbr : RdC w Lo Bo 1 bv r.length (r.map u8v)) (hap : ∀ x, F0 x → x < Lo ∨ Bo ≤ x) (hBw : Bo ≤ w.heap.size)  : Ret Try.prog 28 #[(ptr k 0), (.int .u64 id), bv] w (fun v' w' => Gr w w' (fun x => x = k ∨ x = pm ∨ x = mm ∨ F0 x) ∧ ∃ (e nx' : Int) (P' : PM) (M' : AM) (ps' : List Nat) (F0' : Nat → Prop), v' = .int .i64 e ∧ Bx w' k 71 [.map (some pm), .int .i64 nx', .map (some mm)] ∧ PgAll w' base P' ps' F0' ∧ MapC (.int .i64) pv w' pm (esP P' ps') ∧ MapC (.int .u64) plv w' mm M' ∧ PutZ P nx M id r e P' nx' M' ∧ NewF w.heap.size F0 F0') := by
 have hi_k := hk.lt
 have hi_pm := hPm.lt
 have hi_mm := hMm.lt
 have hps := hA.1
 have hb := Gr.refl w (fun x => x = k ∨ x = pm ∨ x = mm ∨ F0 x)
 refine enter (N := 56) Try.func28 rfl rfl (by simp) fun a hN hd hA => ?_
 have c : a.tmps.getD 0 undef = (ptr k 0) := hA 0 (by simp)
 have d : a.tmps.getD 1 undef = (.int .u64 id) := hA 1 (by simp)
 have f : a.tmps.getD 2 undef = bv := hA 2 (by simp)
 clear hA
 refine zF fun _ a => ?_
 refine zH (zD rfl (zB (a _ _ (zF fun _ a => zF fun _ g => zH (zG (zC hN rfl c) (op_peq_some ptrt53 (zA hN rfl) rfl (zB (g _ _ (wp_cond_false (zA hN rfl) (wp_skip (a _ _ (zF fun _ a => ?_))))))))))))
 refine zH (zG (zC hN rfl c) (op_nil (zA hN rfl) (zM fld71_2 (zA hN rfl) (zN one69 (zA hN rfl) (hk.cell rfl) (zG (zC hN rfl d) (op_look2_miss (k := id) Try.underlying69 (Go.Gx.key_int Try.underlying57) zero80 (zA hN rfl) (zA hN rfl) hMm hm (zG (zA hN rfl) (zW (zA hN rfl) rfl (zW (zA hN rfl) rfl (op_alloc (cs := [(.int .i64 0), (.int .i64 0)]) zero80 rfl ?_))))))))))
 intro u o t p n l
 have p : ¬ F0 o := fun hf => by have := (hA.lt _ hf).2; omega
 obtain ⟨hb, _⟩ := yG hb l
 have hk := hk.keep0 l
 have t := n
 refine zZ size80 (zA hN rfl) (zA hN rfl) rfl rfl n rfl ?_
 intro z n u
 have := u.size
 have hk := hk.keep u (sN hk t)
 have hA := (hA.kz l).keepG (Gr.of u) (Dj.one p)
 have hPm := (hPm.keep0 l).keepB t u
 have hMm := (hMm.keep0 l).keepB t u
 have hbr := (hbr.keep0 l).keep u sO
 have hb := hb.step1 u zx
 refine zD (zA hN rfl) (zB (a _ _ (zF fun _ a => zF fun _ g => reg_split (hd := [_, _, _, _, _, _, _, _, _, _, _, _]) (tl := _) 12 mixed zy rfl rfl (any_quiet (Φ := phiL [(fun uz _ => uz = (.bool false)), (fun uz _ => uz = (.bool false)), (fun uz _ => uz = undef), (fun uz _ => uz = undef), (fun uz _ => uz = undef), (fun uz _ => uz = undef), (fun uz _ => uz = undef), (fun uz _ => uz = undef), (fun uz _ => uz = undef), (fun uz _ => uz = undef), (fun uz _ => uz = undef), (fun uz _ => uz = undef)]) zy zy zy hN (StL.get (StL.eq (StL.eq (StL.eq (StL.eq (StL.eq (StL.eq (StL.eq (StL.eq (StL.eq (StL.eq (StL.eq (StL.eq (StL.nil _)))))))))))))) (ObL.get (s := 12) (ObL.cons ?_ (ObL.cons ?_ (ObL.cons ?_ (ObL.cons ?_ (ObL.cons ?_ (ObL.cons ?_ (ObL.cons ?_ (ObL.cons ?_ (ObL.cons ?_ (ObL.cons ?_ (ObL.cons ?_ (ObL.cons ?_ (ObL.nil))))))))))))) rfl) ?_))))
 ·
  intro aA wA hNA hRA hbsA hdpA
  have l := (hbsA 8 rfl).trans (zU hN rfl)
  refine zG (zC hNA rfl l) ?_
  exact obN_end rfl rfl (grown_refl _ _)
 ·
  intro aA wA hNA hRA hbsA hdpA
  have l : Sl aA 22 (.bool false) := hdpA 0 _ 22 zy rfl rfl
  refine zG (zC hNA rfl l) ?_
  exact obN_end rfl rfl (grown_refl _ _)
 ·
  intro aA wA hNA hRA hbsA hdpA
  have l : Sl aA 23 (.bool false) := hdpA 1 _ 23 zy rfl rfl
  refine zR (j := 1) (dj := 23) (b := true) rfl rfl rfl (zC hNA rfl l) rfl rfl ?_
  exact obN_end rfl rfl (grown_refl _ _)
 ·
  intro aA wA hNA hRA hbsA hdpA
  have t : Sl aA 24 undef := hdpA 2 _ 24 zy rfl rfl
  have l : Sl aA 23 (.bool false) := hdpA 1 _ 23 zy rfl rfl
  refine zR (j := 1) (dj := 23) (b := true) rfl rfl rfl (zC hNA rfl l) rfl rfl ?_
  exact obN_end rfl rfl (grown_refl _ _)
 ·
  intro aA wA hNA hRA hbsA hdpA
  have t : Sl aA 25 undef := hdpA 3 _ 25 zy rfl rfl
  have l : Sl aA 23 (.bool false) := hdpA 1 _ 23 zy rfl rfl
  refine zR (j := 1) (dj := 23) (b := true) rfl rfl rfl (zC hNA rfl l) rfl rfl ?_
  exact obN_end rfl rfl (grown_refl _ _)
 ·
  intro aA wA hNA hRA hbsA hdpA
  have hRA : z.grownBy wA none := hRA
  have := hRA.size
  have t : Sl aA 26 undef := hdpA 4 _ 26 zy rfl rfl
  have l : Sl aA 23 (.bool false) := hdpA 1 _ 23 zy rfl rfl
  clear hbsA hdpA
  refine zR (j := 1) (dj := 23) (b := true) rfl rfl rfl (zC hNA rfl l) rfl rfl ?_
  exact obN_end rfl rfl (grown_refl _ _)
 ·
  intro aA wA hNA hRA hbsA hdpA
  have l : Sl aA 23 (.bool false) := hdpA 1 _ 23 zy rfl rfl
  refine zR (j := 1) (dj := 23) (b := true) rfl rfl rfl (zC hNA rfl l) rfl rfl ?_
  exact obN_end rfl rfl (grown_refl _ _)
 ·
  intro aA wA hNA hRA hbsA hdpA
  have hRA : z.grownBy wA none := hRA
  have := hRA.size
  have t : Sl aA 28 undef := hdpA 6 _ 28 zy rfl rfl
  have l : Sl aA 23 (.bool false) := hdpA 1 _ 23 zy rfl rfl
  clear hbsA hdpA
  refine zR (j := 1) (dj := 23) (b := true) rfl rfl rfl (zC hNA rfl l) rfl rfl ?_
  exact obN_end rfl rfl (grown_refl _ _)
 ·
  intro aA wA hNA hRA hbsA hdpA
  have hRA : z.grownBy wA none := hRA
  have := hRA.size
  have t : Sl aA 27 undef := hdpA 5 _ 27 zy rfl rfl
  have t : Sl aA 29 undef := hdpA 7 _ 29 zy rfl rfl
  have l : Sl aA 23 (.bool false) := hdpA 1 _ 23 zy rfl rfl
  clear hbsA hdpA
  refine zR (j := 1) (dj := 23) (b := true) rfl rfl rfl (zC hNA rfl l) rfl rfl ?_
  exact obN_end rfl rfl (grown_refl _ _)
 ·
  intro aA wA hNA hRA hbsA hdpA
  have l : Sl aA 23 (.bool false) := hdpA 1 _ 23 zy rfl rfl
  refine zR (j := 1) (dj := 23) (b := true) rfl rfl rfl (zC hNA rfl l) rfl rfl ?_
  exact obN_end rfl rfl (grown_refl _ _)
 ·
  intro aA wA hNA hRA hbsA hdpA
  have hRA : z.grownBy wA none := hRA
  have := hRA.size
  have t : Sl aA 31 undef := hdpA 9 _ 31 zy rfl rfl
  have l : Sl aA 23 (.bool false) := hdpA 1 _ 23 zy rfl rfl
  clear hbsA hdpA
  refine zR (j := 1) (dj := 23) (b := true) rfl rfl rfl (zC hNA rfl l) rfl rfl ?_
  exact obN_end rfl rfl (grown_refl _ _)
 ·
  intro aA wA hNA hRA hbsA hdpA
  have l : Sl aA 23 (.bool false) := hdpA 1 _ 23 zy rfl rfl
  refine zR (j := 1) (dj := 23) (b := true) rfl rfl rfl (zC hNA rfl l) rfl rfl ?_
  exact obN_end rfl rfl (grown_refl _ _)
 intro C D l B u A t
 have B := B.trans hd
 have E := (u 0 rfl).trans (zL hN rfl c)
 have c := (u 1 rfl).trans (zL hN rfl d)
 have d := (u 2 rfl).trans (zL hN rfl f)
 have f := (u 8 rfl).trans (zU hN rfl)
 have F : Sl C 23 (.bool false) := A 1 _ 23 rfl rfl
 have G : Sl C 30 undef := A 8 _ 30 rfl rfl
 have G : Sl C 32 undef := A 10 _ 32 rfl rfl
 have G : Sl C 33 undef := A 11 _ 33 rfl rfl
 clear u A
 have t : z.grownBy D none := t
 obtain ⟨hb, _⟩ := yG hb t
 have hk := hk.keep0 t
 have hA := hA.kz t
 have hPm := hPm.keep0 t
 have hMm := hMm.keep0 t
 have hbr := hbr.keep0 t
 have n := n.keep0 t
 refine split_end (from_seq (tl := [_, _, _]) zz zy rfl (zR (j := 1) (dj := 23) (b := true) rfl rfl rfl (zC l rfl F) rfl rfl (zR (j := 1) (dj := 23) (b := true) rfl rfl rfl (zC l rfl F) rfl rfl (zd (zC l rfl F) rfl ?_))))
 refine zB (g _ _ (wp_cond_false (zA l rfl) (wp_skip (a _ _ (zF fun _ a => zH (zG (zC l rfl E) (zG (zC l rfl d) (zj ok46 (puts_m zx hk hA hPm hMm hne hI hnx hn0 hPl hbr (fun k hk => ((NewF.refl _ _) k hk).elim (hap k) (fun q => .inr zx)) zx) ⟨(zA l rfl), ⟨(zA l rfl), trivial⟩⟩ ?_))))))))
 rintro _ K ⟨z, J, D, H, G, I, C, rfl, d, t, u, A, F⟩
 have G : ∀ y, y < w.heap.size → F0 y → (fun x => x = k ∨ x = pm ∨ x = mm ∨ F0 x) y := (fun _ _ h => .inr (.inr (.inr h)))
 have I : ¬ (fun x => x = k ∨ x = pm ∨ F0 x) mm := (fun H => H.elim (fun q => hk.notMap hMm q.symm) (fun H => H.elim (fun q => hne q.symm) (fun H => (hA.notMap hMm) H)))
 have J : ¬ (fun x => x = k ∨ x = pm ∨ F0 x) o := (fun H => H.elim (fun q => by omega) (fun H => H.elim (fun q => n.notMap hPm q) (fun H => p H)))
 have := z.size
 have hb := hb.stepF z (fun y hy H => H.elim (fun q => .inl q) (fun H => H.elim (fun q => .inr (.inl q)) (fun H => G y hy H)))
 have n : NewF w.heap.size F0 C := NewF.trans (NewF.refl _ _) F zx
 refine zG (zA l rfl) (zW (zA l rfl) rfl (zW (zA l rfl) rfl (op_alloc (cs := [(.int .i64 0), (.int .i64 0)]) zero80 rfl ?_)))
 intro J F K G o p
 have G : ¬ C F := fun hf => by have := (t.lt _ hf).2; omega
 obtain ⟨hb, _⟩ := yG hb p
 have d := d.keep0 p
 have C := o
 refine zZ size80 (zA l rfl) (zA l rfl) rfl rfl o rfl ?_
 intro J o F
 have := F.size
 have hMm := ((hMm.keepG z I).keep0 p).keepB C F
 have d := d.keep F (sN d C)
 have t := (t.kz p).keepG (Gr.of F) (Dj.one G)
 have u := (u.keep0 p).keepB C F
 have hb := hb.step1 F zx
 refine zD (zA l rfl) (zB (a _ _ (zF fun _ a => zF fun _ g => zH (zG (zA l rfl) (op_neq (zA l rfl) rfl (fun p => ?_) (fun p => ?_))))))
 ·
  refine zB (g _ _ (wp_cond_true (zA l rfl) (zF fun _ g => zH (zG (zA l rfl) (zD (zA l rfl) (zB (g _ _ (wp_ret (zO ( (ret1 rfl B (zA l rfl) ⟨_, rfl, ?_⟩)))))))))))
  exact ⟨hb, _, _, _, _, _, _, rfl, d, t, u, hMm, .of_bad A p hI hn0, n⟩
 refine zB (g _ _ (wp_cond_false (zA l rfl) (wp_skip (a _ _ (zF fun _ a => zF fun _ g => zH (zG (zC l rfl f) (zB (g _ _ (wp_cond_false (zA l rfl) (wp_skip (a _ _ (zF fun _ a => reg_from mixed ?_))))))))))))
 intro g f
 obtain ⟨hb, _⟩ := yG hb f
 have hMm := hMm.keep0 f
 have d := d.keep0 f
 have t := t.kz f
 have o := o.keep0 f
 refine from_still (m := 6) 6 (hd := [_, _, _, _, _, _]) zy rfl rfl (st_step rfl (fun _ H => zG (zC l rfl E) H) (st_step rfl (fun _ H => op_nil (zA l rfl) H) (st_step rfl (fun _ H => zM fld71_2 (zA l rfl) H) (st_step rfl (fun _ H => zN one69 (zA l rfl) (d.cell rfl) H) (st_step rfl (fun _ H => zG (zC l rfl c) H) (st_step rfl (fun _ H => zY agg80 rfl (zA l rfl) o H) (st_nil (from_seq (tl := [_]) zz zy rfl ?_))))))))
 have hMm_old := hMm
 refine op_mapput (k := id) (v := (D.1, D.2)) Try.underlying69 (Go.Gx.key_int Try.underlying57) (zA l rfl) (zA l rfl) (zA l rfl) hMm ?_
 intro o g c
 have := c.size
 have d := d.keepM hMm_old c
 have t := t.keepG (Gr.of c) (Dj.one (t.notMap hMm_old))
 have u := (u.keep0 f).keep c sB
 have hb := hb.stepB c (.inr (.inr (.inl rfl)))
 refine zB (a _ _ (zF fun _ a => zH (zD rfl (zB (a _ _ (wp_ret (ret1 rfl B (zA l rfl) ⟨_, rfl, ?_⟩)))))))
 exact ⟨hb, 0, _, _, _, _, _, rfl, d, t, u, g, .new A p hI hn0 hm, n⟩

end Go.Proofs.Ytdhpalioifjfbaa

namespace Go.Gx
open Go.RowKit
section
variable {P : Program} {ol : List Oper} {Q : Exit → Act → World → Prop} {Φ : Nat → Value → World → Prop} {C : Nat → Value → World → Prop} {ch : Chain} {R : World → World → Prop} {a0 : Act} {N : Nat}
end
section
variable {P : Program} {ol : List Oper} {Q : Exit → Act → World → Prop} {Φ : Nat → Value → Prop} {G : World → Prop} {a0 : Act} {N : Nat}
end
end Go.Gx

namespace Go.Proofs.Ytdhpalioifjfbaa
open Go.Gx Go.RowKit
attribute [local irreducible] wpList wpStill Code.wp Calls

theorem HPut_hit {id : Int} {at_ : Int × Int} {base k pm mm : Nat} {P : PM} {ps : List Nat} {M : AM} {nx : Int} {F0 : Nat → Prop} {w : World} (hbase : base ≤ w.heap.size) (hk : Bx w k 71 [.map (some pm), .int .i64 nx, .map (some mm)]) (hA : PgAll w base P ps F0) (hPm : MapC (.int .i64) pv w pm (esP P ps)) (hMm : MapC (.int .u64) plv w mm M) (hne : pm ≠ mm) (hI : HInv P nx M) (hnx : nx ≤ 1000000) (hn0 : 0 ≤ nx) (hPl : P.length ≤ 1000000) (hm : mget M id = some at_) {r : By} {bv : Value} {Lo Bo : Nat} (hbr : RdC w Lo Bo 1 bv r.length (r.map u8v)) (hap : ∀ x, F0 x → x < Lo ∨ Bo ≤ x) (hBw : Bo ≤ w.heap.size)  : Ret Try.prog 28 #[(ptr k 0), (.int .u64 id), bv] w (fun v' w' => Gr w w' (fun x => x = k ∨ x = pm ∨ x = mm ∨ F0 x) ∧ ∃ (e nx' : Int) (P' : PM) (M' : AM) (ps' : List Nat) (F0' : Nat → Prop), v' = .int .i64 e ∧ Bx w' k 71 [.map (some pm), .int .i64 nx', .map (some mm)] ∧ PgAll w' base P' ps' F0' ∧ MapC (.int .i64) pv w' pm (esP P' ps') ∧ MapC (.int .u64) plv w' mm M' ∧ PutZ P nx M id r e P' nx' M' ∧ NewF w.heap.size F0 F0') := by
 have hi_k := hk.lt
 have hi_pm := hPm.lt
 have hi_mm := hMm.lt
 have hps := hA.1
 obtain ⟨L, hg⟩ := hI.page hm
 obtain ⟨a, f, c, d, g, _⟩ := hA.key hg
 have f := d.fits
 have d := at_rng hg (hI.key hm).2
 have hb := Gr.refl w (fun x => x = k ∨ x = pm ∨ x = mm ∨ F0 x)
 refine enter (N := 56) Try.func28 rfl rfl (by simp) fun d hN hd hA => ?_
 have f : d.tmps.getD 0 undef = (ptr k 0) := hA 0 (by simp)
 have g : d.tmps.getD 1 undef = (.int .u64 id) := hA 1 (by simp)
 have l : d.tmps.getD 2 undef = bv := hA 2 (by simp)
 clear hA
 refine zF fun _ d => ?_
 refine zH (zD rfl (zB (d _ _ (zF fun _ d => zF fun _ n => zH (zG (zC hN rfl f) (op_peq_some ptrt53 (zA hN rfl) rfl (zB (n _ _ (wp_cond_false (zA hN rfl) (wp_skip (d _ _ (zF fun _ d => ?_))))))))))))
 refine zH (zG (zC hN rfl f) (op_nil (zA hN rfl) (zM fld71_2 (zA hN rfl) (zN one69 (zA hN rfl) (hk.cell rfl) (zG (zC hN rfl g) (op_look2_hit (k := id) (v := at_) Try.underlying69 (Go.Gx.key_int Try.underlying57) zero80 (zA hN rfl) (zA hN rfl) hMm hm (zG (zA hN rfl) (zW (zA hN rfl) rfl (zW (zA hN rfl) rfl (op_alloc (cs := [(.int .i64 0), (.int .i64 0)]) zero80 rfl ?_))))))))))
 intro u p A z o t
 have u : ¬ F0 p := fun hf => by have := (hA.lt _ hf).2; omega
 obtain ⟨hb, _⟩ := yG hb t
 have hk := hk.keep0 t
 have z := o
 refine zZ size80 (zA hN rfl) (zA hN rfl) rfl rfl o rfl ?_
 intro B o A
 have := A.size
 have hk := hk.keep A (sN hk z)
 have hA := (hA.kz t).keepG (Gr.of A) (Dj.one u)
 have hPm := (hPm.keep0 t).keepB z A
 have hMm := (hMm.keep0 t).keepB z A
 have hbr := (hbr.keep0 t).keep A sO
 have hb := hb.step1 A zx
 refine zD (zA hN rfl) (zB (d _ _ (zF fun _ d => zF fun _ n => reg_split (hd := [_, _, _, _, _, _, _, _, _, _, _, _]) (tl := _) 12 mixed zy rfl rfl (any_quiet (Φ := phiL [(fun uz _ => uz = (.bool true)), (fun uz _ => uz = (.bool true)), (fun uz _ => uz = (ptr k 0)), (fun uz _ => uz = (ptr k 0)), (fun uz _ => uz = (ptr k 0)), (fun uz _ => uz = (Value.map (some pm))), (fun uz _ => uz = (ptr p 0)), (fun uz _ => uz = (.int .i64 at_.1)), (fun uz _ => uz = (ptr a 0)), (fun uz _ => uz = (ptr p 1)), (fun uz _ => uz = (.int .i64 at_.2)), (fun uz _ => uz = bv)]) zy zy zy hN (StL.get (StL.eq (StL.eq (StL.eq (StL.eq (StL.eq (StL.eq (StL.eq (StL.eq (StL.eq (StL.eq (StL.eq (StL.eq (StL.nil _)))))))))))))) (ObL.get (s := 12) (ObL.cons ?_ (ObL.cons ?_ (ObL.cons ?_ (ObL.cons ?_ (ObL.cons ?_ (ObL.cons ?_ (ObL.cons ?_ (ObL.cons ?_ (ObL.cons ?_ (ObL.cons ?_ (ObL.cons ?_ (ObL.cons ?_ (ObL.nil))))))))))))) rfl) ?_))))
 ·
  intro aA wA hNA hRA hbsA hdpA
  have t := (hbsA 8 rfl).trans (zU hN rfl)
  refine zG (zC hNA rfl t) ?_
  exact obN_end rfl rfl (grown_refl _ _)
 ·
  intro aA wA hNA hRA hbsA hdpA
  have t : Sl aA 22 (.bool true) := hdpA 0 _ 22 zy rfl rfl
  refine zG (zC hNA rfl t) ?_
  exact obN_end rfl rfl (grown_refl _ _)
 ·
  intro aA wA hNA hRA hbsA hdpA
  have t := (hbsA 0 rfl).trans (zL hN rfl f)
  have z : Sl aA 23 (.bool true) := hdpA 1 _ 23 zy rfl rfl
  refine zS (j := 1) (dj := 23) (b := true) rfl rfl rfl (zC hNA rfl z) (zG (zC hNA rfl t) ?_)
  exact obN_end rfl rfl (grown_refl _ _)
 ·
  intro aA wA hNA hRA hbsA hdpA
  have t : Sl aA 24 (ptr k 0) := hdpA 2 _ 24 zy rfl rfl
  have z : Sl aA 23 (.bool true) := hdpA 1 _ 23 zy rfl rfl
  refine zS (j := 1) (dj := 23) (b := true) rfl rfl rfl (zC hNA rfl z) (op_nil (zC hNA rfl t) ?_)
  exact obN_end rfl rfl (grown_refl _ _)
 ·
  intro aA wA hNA hRA hbsA hdpA
  have t : Sl aA 25 (ptr k 0) := hdpA 3 _ 25 zy rfl rfl
  have z : Sl aA 23 (.bool true) := hdpA 1 _ 23 zy rfl rfl
  refine zS (j := 1) (dj := 23) (b := true) rfl rfl rfl (zC hNA rfl z) (zM fld71_0 (zC hNA rfl t) ?_)
  exact obN_end rfl rfl (grown_refl _ _)
 ·
  intro aA wA hNA hRA hbsA hdpA
  have hRA : B.grownBy wA none := hRA
  have := hRA.size
  have hk := hk.keep0 hRA
  have t : Sl aA 26 (ptr k 0) := hdpA 4 _ 26 zy rfl rfl
  have z : Sl aA 23 (.bool true) := hdpA 1 _ 23 zy rfl rfl
  clear hbsA hdpA
  refine zS (j := 1) (dj := 23) (b := true) rfl rfl rfl (zC hNA rfl z) (zN one68 (zC hNA rfl t) (hk.cell rfl) ?_)
  exact obN_end rfl rfl (grown_refl _ _)
 ·
  intro aA wA hNA hRA hbsA hdpA
  have t := (hbsA 7 rfl).trans (zU hN rfl)
  have z : Sl aA 23 (.bool true) := hdpA 1 _ 23 zy rfl rfl
  refine zS (j := 1) (dj := 23) (b := true) rfl rfl rfl (zC hNA rfl z) (zM fld80_0 (zC hNA rfl t) ?_)
  exact obN_end rfl rfl (grown_refl _ _)
 ·
  intro aA wA hNA hRA hbsA hdpA
  have hRA : B.grownBy wA none := hRA
  have := hRA.size
  have o := o.keep0 hRA
  have A : Sl aA 28 (ptr p 0) := hdpA 6 _ 28 zy rfl rfl
  have z : Sl aA 23 (.bool true) := hdpA 1 _ 23 zy rfl rfl
  clear hbsA hdpA
  refine zS (j := 1) (dj := 23) (b := true) rfl rfl rfl (zC hNA rfl z) (zN one3 (zC hNA rfl A) (o.cell rfl) ?_)
  exact obN_end rfl rfl (grown_refl _ _)
 ·
  intro aA wA hNA hRA hbsA hdpA
  have hRA : B.grownBy wA none := hRA
  have := hRA.size
  have hPm := hPm.keep0 hRA
  have A : Sl aA 27 (Value.map (some pm)) := hdpA 5 _ 27 zy rfl rfl
  have C : Sl aA 29 (.int .i64 at_.1) := hdpA 7 _ 29 zy rfl rfl
  have z : Sl aA 23 (.bool true) := hdpA 1 _ 23 zy rfl rfl
  clear hbsA hdpA
  refine zS (j := 1) (dj := 23) (b := true) rfl rfl rfl (zC hNA rfl z) (op_look_hit (k := at_.1) (v := a) Try.underlying68 (Go.Gx.key_int Try.underlying3) zero24 (zC hNA rfl A) (zC hNA rfl C) hPm c ?_)
  exact obN_end rfl rfl (grown_refl _ _)
 ·
  intro aA wA hNA hRA hbsA hdpA
  have t := (hbsA 7 rfl).trans (zU hN rfl)
  have z : Sl aA 23 (.bool true) := hdpA 1 _ 23 zy rfl rfl
  refine zS (j := 1) (dj := 23) (b := true) rfl rfl rfl (zC hNA rfl z) (zM fld80_1 (zC hNA rfl t) ?_)
  exact obN_end rfl rfl (grown_refl _ _)
 ·
  intro aA wA hNA hRA hbsA hdpA
  have hRA : B.grownBy wA none := hRA
  have := hRA.size
  have o := o.keep0 hRA
  have t : Sl aA 31 (ptr p 1) := hdpA 9 _ 31 zy rfl rfl
  have z : Sl aA 23 (.bool true) := hdpA 1 _ 23 zy rfl rfl
  clear hbsA hdpA
  refine zS (j := 1) (dj := 23) (b := true) rfl rfl rfl (zC hNA rfl z) (zN one3 (zC hNA rfl t) (o.cell rfl) ?_)
  exact obN_end rfl rfl (grown_refl _ _)
 ·
  intro aA wA hNA hRA hbsA hdpA
  have t := (hbsA 2 rfl).trans (zL hN rfl l)
  have z : Sl aA 23 (.bool true) := hdpA 1 _ 23 zy rfl rfl
  refine zS (j := 1) (dj := 23) (b := true) rfl rfl rfl (zC hNA rfl z) (zG (zC hNA rfl t) ?_)
  exact obN_end rfl rfl (grown_refl _ _)
 intro E F t C A D z
 have C := C.trans hd
 have G := (A 0 rfl).trans (zL hN rfl f)
 have f := (A 1 rfl).trans (zL hN rfl g)
 have g := (A 2 rfl).trans (zL hN rfl l)
 have l := (A 7 rfl).trans (zU hN rfl)
 have H := (A 8 rfl).trans (zU hN rfl)
 have I : Sl E 23 (.bool true) := D 1 _ 23 rfl rfl
 have J : Sl E 30 (ptr a 0) := D 8 _ 30 rfl rfl
 have a : Sl E 32 (.int .i64 at_.2) := D 10 _ 32 rfl rfl
 have K : Sl E 33 bv := D 11 _ 33 rfl rfl
 clear A D
 have z : B.grownBy F none := z
 obtain ⟨hb, _⟩ := yG hb z
 have hk := hk.keep0 z
 have hA := hA.kz z
 have hPm := hPm.keep0 z
 have hMm := hMm.keep0 z
 have hbr := hbr.keep0 z
 have o := o.keep0 z
 refine split_end (from_seq (tl := [_, _, _]) zz zy rfl (zS (j := 1) (dj := 23) (b := true) rfl rfl rfl (zC t rfl I) (zj ok20 (pa_set hA hg c zx hbr (fun k hk => ((NewF.refl _ _) k hk).elim (hap k) (fun q => .inr zx)) zx at_.2 zx) ⟨(zC t rfl J), ⟨(zC t rfl a), ⟨(zC t rfl K), trivial⟩⟩⟩ ?_)))
 rintro _ B ⟨a, rfl, c, A, z⟩
 have D := hk.lt
 have D := hPm.lt
 have D := hMm.lt
 have D := o.lt
 have hA_old := hA
 have := a.size
 have hk := hk.keepG a (hA_old.notBx hk zz zz)
 have hPm := hPm.keepG a (hA_old.notMap hPm)
 have hMm := hMm.keepG a (hA_old.notMap hMm)
 have hbr := hbr.keepG a (fun k hk => ((NewF.refl _ _) k hk).elim (hap k) (fun q => .inr zx))
 have o := o.keepG a u
 have hb := hb.stepF a (fun _ _ h => .inr (.inr (.inr h)))
 have a : ¬ c p := ne_stepF z D u
 have u : NewF w.heap.size F0 c := NewF.trans (NewF.refl _ _) z zx
 refine zS (j := 1) (dj := 23) (b := true) rfl rfl rfl (zC t rfl I) (op_eql (zA t rfl) rfl (fun z => ?_) (fun z => ?_))
 ·
  refine zc (zC t rfl I) (zA t rfl) (zB (n _ _ (wp_cond_true (zA t rfl) (zF fun _ n => zH (zD rfl (zB (n _ _ (wp_ret (zO ( (ret1 rfl C (zA t rfl) ⟨_, rfl, ?_⟩)))))))))))
  have D := hPm
  rw [← esP_mput (L' := setN L at_.2 r) hps hg] at D
  exact ⟨hb, 0, _, _, _, _, _, rfl, hk, A, D, hMm, .set hI hn0 hm hg z, u⟩
 refine zc (zC t rfl I) (zA t rfl) (zB (n _ _ (wp_cond_false (zA t rfl) (wp_skip (d _ _ (zF fun _ d => zH ?_))))))
 have hAb : PgAll B base P ps c := by have D := A; rw [setN_same z, mput_same hg] at D; exact D
 refine zG (zC t rfl G) (zG (zC t rfl g) (zj ok46 (puts_m zx hk hAb hPm hMm hne hI hnx hn0 hPl hbr (fun k hk => (u k hk).elim (hap k) (fun q => .inr zx)) zx) ⟨(zA t rfl), ⟨(zA t rfl), trivial⟩⟩ ?_))
 rintro _ O ⟨E, K, I, Q, S, R, B, rfl, g, z, A, F, J⟩
 have K : ∀ y, y < w.heap.size → c y → (fun x => x = k ∨ x = pm ∨ x = mm ∨ F0 x) y := (fun y hy D => .inr (.inr (.inr ((u y D).resolve_right zx))))
 have O : ¬ (fun x => x = k ∨ x = pm ∨ c x) mm := (fun D => D.elim (fun q => hk.notMap hMm q.symm) (fun D => D.elim (fun q => hne q.symm) (fun D => (hAb.notMap hMm) D)))
 have Q : ¬ (fun x => x = k ∨ x = pm ∨ c x) p := (fun D => D.elim (fun q => by omega) (fun D => D.elim (fun q => o.notMap hPm q) (fun D => a D)))
 have := E.size
 have hb := hb.stepF E (fun y hy D => D.elim (fun q => .inl q) (fun D => D.elim (fun q => .inr (.inl q)) (fun D => K y hy D)))
 have a : NewF w.heap.size F0 B := NewF.trans u J zx
 refine zG (zA t rfl) (zW (zA t rfl) rfl (zW (zA t rfl) rfl (op_alloc (cs := [(.int .i64 0), (.int .i64 0)]) zero80 rfl ?_)))
 intro R J S K c u
 have K : ¬ B J := fun hf => by have := (z.lt _ hf).2; omega
 obtain ⟨hb, _⟩ := yG hb u
 have g := g.keep0 u
 have R := c
 refine zZ size80 (zA t rfl) (zA t rfl) rfl rfl c rfl ?_
 intro T c S
 have := S.size
 have hMm := ((hMm.keepG E O).keep0 u).keepB R S
 have o := ((o.keepG E Q).keep0 u).keep S sB
 have g := g.keep S (sN g R)
 have z := (z.kz u).keepG (Gr.of S) (Dj.one K)
 have A := (A.keep0 u).keepB R S
 have hb := hb.step1 S zx
 refine zD (zA t rfl) (zB (d _ _ (zF fun _ d => zF fun _ n => zH (zG (zA t rfl) (op_neq (zA t rfl) rfl (fun u => ?_) (fun u => ?_))))))
 ·
  refine zB (n _ _ (wp_cond_true (zA t rfl) (zF fun _ n => zH (zG (zA t rfl) (zD (zA t rfl) (zB (n _ _ (wp_ret (zO ( (ret1 rfl C (zA t rfl) ⟨_, rfl, ?_⟩)))))))))))
  exact ⟨hb, _, _, _, _, _, _, rfl, g, z, A, hMm, .of_bad F u hI hn0, a⟩
 refine zB (n _ _ (wp_cond_false (zA t rfl) (wp_skip (d _ _ (zF fun _ d => zF fun _ n => zH (zG (zC t rfl H) (zB (n _ _ (wp_cond_true (zA t rfl) (zH ?_))))))))))
 obtain ⟨⟨H, n⟩, E⟩ := F.still u hI hn0 hm
 have H := at_rng n E
 obtain ⟨O, Q, H, E, R, _⟩ := z.key n
 have O := E.fits
 refine zG (zC t rfl G) (zY agg80 rfl (zC t rfl l) o (zj ok47 (drops_m zx g z A hMm hne n H zx) ⟨(zA t rfl), ⟨(zA t rfl), trivial⟩⟩ ?_))
 rintro _ T ⟨n, rfl, S, R, Q, l, E, O, H⟩
 have R : ∀ y, y < w.heap.size → B y → (fun x => x = k ∨ x = pm ∨ x = mm ∨ F0 x) y := (fun y hy D => .inr (.inr (.inr ((a y D).resolve_right zx))))
 have S : ¬ (fun x => x = pm ∨ B x) mm := (fun D => D.elim (fun q => hne q.symm) (fun D => (z.notMap hMm) D))
 have T : ¬ (fun x => x = pm ∨ B x) p := (fun D => D.elim (fun q => o.notMap A q) (fun D => (z.notBx o zz zz) D))
 have o : ¬ (fun x => x = pm ∨ B x) k := (fun D => D.elim (fun q => g.notMap A q) (fun D => (z.notBx g zz zz) D))
 have p : ¬ (fun x => x = pm ∨ B x) J := (fun D => D.elim (fun q => c.notMap A q) (fun D => K D))
 have := n.size
 have hb := hb.stepF n (fun y hy D => D.elim (fun q => .inr (.inl q)) (fun D => R y hy D))
 have z : NewF w.heap.size F0 Q := NewF.trans a H zx
 refine zB (d _ _ (zF fun _ d => reg_from mixed ?_))
 intro A a
 obtain ⟨hb, _⟩ := yG hb a
 have hMm := (hMm.keepG n S).keep0 a
 have g := (g.keepG n o).keep0 a
 have c := (c.keepG n p).keep0 a
 have l := l.kz a
 refine from_still (m := 6) 6 (hd := [_, _, _, _, _, _]) zy rfl rfl (st_step rfl (fun _ D => zG (zC t rfl G) D) (st_step rfl (fun _ D => op_nil (zA t rfl) D) (st_step rfl (fun _ D => zM fld71_2 (zA t rfl) D) (st_step rfl (fun _ D => zN one69 (zA t rfl) (g.cell rfl) D) (st_step rfl (fun _ D => zG (zC t rfl f) D) (st_step rfl (fun _ D => zY agg80 rfl (zA t rfl) c D) (st_nil (from_seq (tl := [_]) zz zy rfl ?_))))))))
 have hMm_old := hMm
 refine op_mapput (k := id) (v := (I.1, I.2)) Try.underlying69 (Go.Gx.key_int Try.underlying57) (zA t rfl) (zA t rfl) (zA t rfl) hMm ?_
 intro n f c
 have := c.size
 have g := g.keepM hMm_old c
 have l := l.keepG (Gr.of c) (Dj.one (l.notMap hMm_old))
 have E := (E.keep0 a).keep c sB
 have hb := hb.stepB c (.inr (.inr (.inl rfl)))
 refine zB (d _ _ (zF fun _ d => zH (zD rfl (zB (d _ _ (wp_ret (ret1 rfl C (zA t rfl) ⟨_, rfl, ?_⟩)))))))
 exact ⟨hb, 0, _, _, _, _, _, rfl, g, l, E, f, .old F u hI hn0 hm O, z⟩

theorem HDrop_n {base k : Nat} {nx : Int} {w : World} (hbase : base ≤ w.heap.size) (hk : Bx w k 71 [.map none, .int .i64 nx, .map none]) {id : Int}  : Ret Try.prog 29 #[(ptr k 0), (.int .u64 id)] w (fun v' w' => Below w.heap.size w w' ∧ v' = .int .i64 22) := by
 have hb := Below.refl w.heap.size w
 refine enter (N := 28) Try.func29 rfl rfl (by simp) fun a hN hd hA => ?_
 have b : a.tmps.getD 0 undef = (ptr k 0) := hA 0 (by simp)
 have c : a.tmps.getD 1 undef = (.int .u64 id) := hA 1 (by simp)
 clear hA
 refine zF fun _ a => ?_
 refine zH (zD rfl (zB (a _ _ (zF fun _ a => zF fun _ d => zH (zG (zC hN rfl b) (op_peq_some ptrt53 (zA hN rfl) rfl (zB (d _ _ (wp_cond_false (zA hN rfl) (wp_skip (a _ _ (zF fun _ a => ?_))))))))))))
 refine zH (zG (zC hN rfl b) (op_nil (zA hN rfl) (zM fld71_2 (zA hN rfl) (zN one69 (zA hN rfl) (hk.cell rfl) (zG (zC hN rfl c) (op_look2_nil (k := id) Try.underlying69 (Go.Gx.key_int Try.underlying57) zero80 (zA hN rfl) (zA hN rfl) (zG (zA hN rfl) (zW (zA hN rfl) rfl (zW (zA hN rfl) rfl (op_alloc (cs := [(.int .i64 0), (.int .i64 0)]) zero80 rfl ?_))))))))))
 intro e h g f b c
 obtain ⟨hb, _⟩ := yE hb c
 refine zZ size80 (zA hN rfl) (zA hN rfl) rfl rfl b rfl ?_
 intro e b c
 have := c.size
 have hb := below_step1 hb c hb.size zx
 refine zD (zA hN rfl) (zB (a _ _ (zF fun _ a => zF fun _ d => ?_)))
 refine zH (zG (zA hN rfl) (op_not (zA hN rfl) (zB (d _ _ (wp_cond_true (zA hN rfl) (zF fun _ d => zH (zD rfl (zB (d _ _ (wp_ret (zO ( (ret1 rfl hd (zA hN rfl) ⟨_, rfl, ?_⟩)))))))))))))
 exact ⟨hb, rfl⟩

theorem HGet_n {base k : Nat} {nx : Int} {w : World} (hbase : base ≤ w.heap.size) (hk : Bx w k 71 [.map none, .int .i64 nx, .map none]) {id : Int}  : Ret Try.prog 30 #[(ptr k 0), (.int .u64 id)] w (fun v' w' => Below w.heap.size w w' ∧ v' = .tuple #[.slice none 0 0, .int .i64 22]) := by
 have hb := Below.refl w.heap.size w
 refine enter (N := 33) Try.func30 rfl rfl (by simp) fun a hN hd hA => ?_
 have b : a.tmps.getD 0 undef = (ptr k 0) := hA 0 (by simp)
 have c : a.tmps.getD 1 undef = (.int .u64 id) := hA 1 (by simp)
 clear hA
 refine zF fun _ a => zH ?_
 refine zD rfl (zD rfl (zB (a _ _ (zF fun _ a => zF fun _ d => zH (zG (zC hN rfl b) (op_peq_some ptrt53 (zA hN rfl) rfl (zB (d _ _ (wp_cond_false (zA hN rfl) (wp_skip (a _ _ (zF fun _ a => ?_))))))))))))
 refine zH (zG (zC hN rfl b) (op_nil (zA hN rfl) (zM fld71_2 (zA hN rfl) (zN one69 (zA hN rfl) (hk.cell rfl) (zG (zC hN rfl c) (op_look2_nil (k := id) Try.underlying69 (Go.Gx.key_int Try.underlying57) zero80 (zA hN rfl) (zA hN rfl) (zG (zA hN rfl) (zW (zA hN rfl) rfl (zW (zA hN rfl) rfl (op_alloc (cs := [(.int .i64 0), (.int .i64 0)]) zero80 rfl ?_))))))))))
 intro h f e g b c
 obtain ⟨hb, _⟩ := yE hb c
 refine zZ size80 (zA hN rfl) (zA hN rfl) rfl rfl b rfl ?_
 intro e b c
 have := c.size
 have hb := below_step1 hb c hb.size zx
 refine zD (zA hN rfl) (zB (a _ _ (zF fun _ a => zF fun _ d => zH ?_)))
 refine zG (zA hN rfl) (op_not (zA hN rfl) (zB (d _ _ (wp_cond_true (zA hN rfl) (zF fun _ d => zH (zD rfl (zD rfl (zB (d _ _ (wp_ret (zO ( (ret2 rfl hd (zA hN rfl) (zA hN rfl) ⟨_, rfl, ?_⟩)))))))))))))
 exact ⟨hb, rfl⟩

theorem HDrop_miss {base k pm mm : Nat} {P : PM} {ps : List Nat} {M : AM} {nx : Int} {F0 : Nat → Prop} {w : World} (hbase : base ≤ w.heap.size) (hk : Bx w k 71 [.map (some pm), .int .i64 nx, .map (some mm)]) (hA : PgAll w base P ps F0) (hPm : MapC (.int .i64) pv w pm (esP P ps)) (hMm : MapC (.int .u64) plv w mm M) (hne : pm ≠ mm) {id : Int} (hm : mget M id = none)  : Ret Try.prog 29 #[(ptr k 0), (.int .u64 id)] w (fun v' w' => Below w.heap.size w w' ∧ v' = .int .i64 22) := by
 have hb := Below.refl w.heap.size w
 refine enter (N := 28) Try.func29 rfl rfl (by simp) fun a hN hd hA => ?_
 have b : a.tmps.getD 0 undef = (ptr k 0) := hA 0 (by simp)
 have c : a.tmps.getD 1 undef = (.int .u64 id) := hA 1 (by simp)
 clear hA
 refine zF fun _ a => ?_
 refine zH (zD rfl (zB (a _ _ (zF fun _ a => zF fun _ d => zH (zG (zC hN rfl b) (op_peq_some ptrt53 (zA hN rfl) rfl (zB (d _ _ (wp_cond_false (zA hN rfl) (wp_skip (a _ _ (zF fun _ a => ?_))))))))))))
 refine zH (zG (zC hN rfl b) (op_nil (zA hN rfl) (zM fld71_2 (zA hN rfl) (zN one69 (zA hN rfl) (hk.cell rfl) (zG (zC hN rfl c) (op_look2_miss (k := id) Try.underlying69 (Go.Gx.key_int Try.underlying57) zero80 (zA hN rfl) (zA hN rfl) hMm hm (zG (zA hN rfl) (zW (zA hN rfl) rfl (zW (zA hN rfl) rfl (op_alloc (cs := [(.int .i64 0), (.int .i64 0)]) zero80 rfl ?_))))))))))
 intro e g h f b c
 obtain ⟨hb, _⟩ := yE hb c
 refine zZ size80 (zA hN rfl) (zA hN rfl) rfl rfl b rfl ?_
 intro e b c
 have := c.size
 have hb := below_step1 hb c hb.size zx
 refine zD (zA hN rfl) (zB (a _ _ (zF fun _ a => zF fun _ d => ?_)))
 refine zH (zG (zA hN rfl) (op_not (zA hN rfl) (zB (d _ _ (wp_cond_true (zA hN rfl) (zF fun _ d => zH (zD rfl (zB (d _ _ (wp_ret (zO ( (ret1 rfl hd (zA hN rfl) ⟨_, rfl, ?_⟩)))))))))))))
 exact ⟨hb, rfl⟩

theorem HGet_miss {base k pm mm : Nat} {P : PM} {ps : List Nat} {M : AM} {nx : Int} {F0 : Nat → Prop} {w : World} (hbase : base ≤ w.heap.size) (hk : Bx w k 71 [.map (some pm), .int .i64 nx, .map (some mm)]) (hA : PgAll w base P ps F0) (hPm : MapC (.int .i64) pv w pm (esP P ps)) (hMm : MapC (.int .u64) plv w mm M) (hne : pm ≠ mm) {id : Int} (hm : mget M id = none)  : Ret Try.prog 30 #[(ptr k 0), (.int .u64 id)] w (fun v' w' => Below w.heap.size w w' ∧ v' = .tuple #[.slice none 0 0, .int .i64 22]) := by
 have hb := Below.refl w.heap.size w
 refine enter (N := 33) Try.func30 rfl rfl (by simp) fun a hN hd hA => ?_
 have b : a.tmps.getD 0 undef = (ptr k 0) := hA 0 (by simp)
 have c : a.tmps.getD 1 undef = (.int .u64 id) := hA 1 (by simp)
 clear hA
 refine zF fun _ a => zH ?_
 refine zD rfl (zD rfl (zB (a _ _ (zF fun _ a => zF fun _ d => zH (zG (zC hN rfl b) (op_peq_some ptrt53 (zA hN rfl) rfl (zB (d _ _ (wp_cond_false (zA hN rfl) (wp_skip (a _ _ (zF fun _ a => ?_))))))))))))
 refine zH (zG (zC hN rfl b) (op_nil (zA hN rfl) (zM fld71_2 (zA hN rfl) (zN one69 (zA hN rfl) (hk.cell rfl) (zG (zC hN rfl c) (op_look2_miss (k := id) Try.underlying69 (Go.Gx.key_int Try.underlying57) zero80 (zA hN rfl) (zA hN rfl) hMm hm (zG (zA hN rfl) (zW (zA hN rfl) rfl (zW (zA hN rfl) rfl (op_alloc (cs := [(.int .i64 0), (.int .i64 0)]) zero80 rfl ?_))))))))))
 intro h g e f b c
 obtain ⟨hb, _⟩ := yE hb c
 refine zZ size80 (zA hN rfl) (zA hN rfl) rfl rfl b rfl ?_
 intro e b c
 have := c.size
 have hb := below_step1 hb c hb.size zx
 refine zD (zA hN rfl) (zB (a _ _ (zF fun _ a => zF fun _ d => zH ?_)))
 refine zG (zA hN rfl) (op_not (zA hN rfl) (zB (d _ _ (wp_cond_true (zA hN rfl) (zF fun _ d => zH (zD rfl (zD rfl (zB (d _ _ (wp_ret (zO ( (ret2 rfl hd (zA hN rfl) (zA hN rfl) ⟨_, rfl, ?_⟩)))))))))))))
 exact ⟨hb, rfl⟩

theorem HDrop_hit {base k pm mm : Nat} {P : PM} {ps : List Nat} {M : AM} {nx : Int} {F0 : Nat → Prop} {w : World} (hbase : base ≤ w.heap.size) (hk : Bx w k 71 [.map (some pm), .int .i64 nx, .map (some mm)]) (hA : PgAll w base P ps F0) (hPm : MapC (.int .i64) pv w pm (esP P ps)) (hMm : MapC (.int .u64) plv w mm M) (hne : pm ≠ mm) {id : Int} {at_ : Int × Int} (hI : HInv P nx M) (hm : mget M id = some at_)  : Ret Try.prog 29 #[(ptr k 0), (.int .u64 id)] w (fun v' w' => Gr w w' (fun x => x = pm ∨ x = mm ∨ F0 x) ∧ v' = .int .i64 0 ∧ ∃ (P' : PM) (ps' : List Nat) (F0' : Nat → Prop), PgAll w' base P' ps' F0' ∧ MapC (.int .i64) pv w' pm (esP P' ps') ∧ MapC (.int .u64) plv w' mm (mdel M id) ∧ DropsP P at_ P' ∧ NewF w.heap.size F0 F0') := by
 have hi_k := hk.lt
 have hi_pm := hPm.lt
 have hi_mm := hMm.lt
 have hps := hA.1
 obtain ⟨L, hg⟩ := hI.page hm
 obtain ⟨e, c, a, b, d, _⟩ := hA.key hg
 have c := b.fits
 have b := at_rng hg (hI.key hm).2
 have hb := Gr.refl w (fun x => x = pm ∨ x = mm ∨ F0 x)
 refine enter (N := 28) Try.func29 rfl rfl (by simp) fun b hN hd hA => ?_
 have c : b.tmps.getD 0 undef = (ptr k 0) := hA 0 (by simp)
 have d : b.tmps.getD 1 undef = (.int .u64 id) := hA 1 (by simp)
 clear hA
 refine zF fun _ b => ?_
 refine zH (zD rfl (zB (b _ _ (zF fun _ b => zF fun _ e => zH (zG (zC hN rfl c) (op_peq_some ptrt53 (zA hN rfl) rfl (zB (e _ _ (wp_cond_false (zA hN rfl) (wp_skip (b _ _ (zF fun _ b => ?_))))))))))))
 refine zH (zG (zC hN rfl c) (op_nil (zA hN rfl) (zM fld71_2 (zA hN rfl) (zN one69 (zA hN rfl) (hk.cell rfl) (zG (zC hN rfl d) (op_look2_hit (k := id) (v := at_) Try.underlying69 (Go.Gx.key_int Try.underlying57) zero80 (zA hN rfl) (zA hN rfl) hMm hm (zG (zA hN rfl) (zW (zA hN rfl) rfl (zW (zA hN rfl) rfl (op_alloc (cs := [(.int .i64 0), (.int .i64 0)]) zero80 rfl ?_))))))))))
 intro l j m n g f
 have l : ¬ F0 j := fun hf => by have := (hA.lt _ hf).2; omega
 obtain ⟨hb, _⟩ := yG hb f
 have hk := hk.keep0 f
 have m := g
 refine zZ size80 (zA hN rfl) (zA hN rfl) rfl rfl g rfl ?_
 intro o g n
 have := n.size
 have hk := hk.keep n (sN hk m)
 have hA := (hA.kz f).keepG (Gr.of n) (Dj.one l)
 have hPm := (hPm.keep0 f).keepB m n
 have hMm := (hMm.keep0 f).keepB m n
 have hb := hb.step1 n zx
 refine zD (zA hN rfl) (zB (b _ _ (zF fun _ b => zF fun _ e => zH (zG (zA hN rfl) (op_not (zA hN rfl) ?_)))))
 refine zB (e _ _ (wp_cond_false (zA hN rfl) (wp_skip (b _ _ (zF fun _ b => zH (zG (zC hN rfl c) (zY agg80 rfl (zA hN rfl) g (zj ok47 (drops_m zx hk hA hPm hMm hne hg a zx) ⟨(zA hN rfl), ⟨(zA hN rfl), trivial⟩⟩ ?_))))))))
 rintro _ r ⟨a, rfl, p, s, n, e, f, o, m⟩
 have p : ∀ y, y < w.heap.size → F0 y → (fun x => x = pm ∨ x = mm ∨ F0 x) y := (fun _ _ h => .inr (.inr h))
 have s : ¬ (fun x => x = pm ∨ F0 x) k := (fun r => r.elim (fun q => hk.notMap hPm q) (fun r => (hA.notBx hk zz zz) r))
 have t : ¬ (fun x => x = pm ∨ F0 x) mm := (fun r => r.elim (fun q => hne q.symm) (fun r => (hA.notMap hMm) r))
 have u : ¬ (fun x => x = pm ∨ F0 x) j := (fun r => r.elim (fun q => g.notMap hPm q) (fun r => l r))
 have := a.size
 have hk := hk.keepG a s
 have hMm := hMm.keepG a t
 have hb := hb.stepF a (fun y hy r => r.elim (fun q => .inl q) (fun r => p y hy r))
 have a : NewF w.heap.size F0 n := NewF.trans (NewF.refl _ _) m zx
 refine zB (b _ _ (zF fun _ b => zH (zG (zC hN rfl c) (op_nil (zA hN rfl) (zM fld71_2 (zA hN rfl) (zN one69 (zA hN rfl) (hk.cell rfl) (zG (zC hN rfl d) ?_)))))))
 have hMm_old := hMm
 refine op_mapdel0 (k := id) Try.underlying69 (Go.Gx.key_int Try.underlying57) (zA hN rfl) (zA hN rfl) hMm ?_
 intro g d c
 have := c.size
 have e := e.keepG (Gr.of c) (Dj.one (e.notMap hMm_old))
 have f := f.keep c sB
 have hb := hb.stepB c (.inr (.inl rfl))
 refine zB (b _ _ (zF fun _ b => zH (zD rfl (zB (b _ _ (wp_ret (ret1 rfl hd (zA hN rfl) ⟨_, rfl, ?_⟩)))))))
 exact ⟨hb, rfl, _, _, _, e, f, d, o, a⟩

theorem HGet_hit {base k pm mm : Nat} {P : PM} {ps : List Nat} {M : AM} {nx : Int} {F0 : Nat → Prop} {w : World} (hbase : base ≤ w.heap.size) (hk : Bx w k 71 [.map (some pm), .int .i64 nx, .map (some mm)]) (hA : PgAll w base P ps F0) (hPm : MapC (.int .i64) pv w pm (esP P ps)) (hMm : MapC (.int .u64) plv w mm M) (hne : pm ≠ mm) {id : Int} {at_ : Int × Int} (hI : HInv P nx M) (hm : mget M id = some at_)  : Ret Try.prog 30 #[(ptr k 0), (.int .u64 id)] w (fun v' w' => Gr w w' F0 ∧ ∃ (x : Value) (b : By) (F0' : Nat → Prop), v' = .tuple #[x, .int .i64 0] ∧ mget (recs P M) id = some b ∧ Own w' w.heap.size 5 1 x b.length (b.map u8v) ∧ PgAll w' base P ps F0' ∧ NewF w.heap.size F0 F0') := by
 have hi_k := hk.lt
 have hi_pm := hPm.lt
 have hi_mm := hMm.lt
 have hps := hA.1
 obtain ⟨L, hg⟩ := hI.page hm
 obtain ⟨a, e, c, d, f, _⟩ := hA.key hg
 have e := d.fits
 have d := at_rng hg (hI.key hm).2
 have hdg := drop_get hI hm hg
 have hb := Gr.refl w F0
 refine enter (N := 33) Try.func30 rfl rfl (by simp) fun d hN hd hA => ?_
 have e : d.tmps.getD 0 undef = (ptr k 0) := hA 0 (by simp)
 have f : d.tmps.getD 1 undef = (.int .u64 id) := hA 1 (by simp)
 clear hA
 refine zF fun _ d => zH ?_
 refine zD rfl (zD rfl (zB (d _ _ (zF fun _ d => zF fun _ g => zH (zG (zC hN rfl e) (op_peq_some ptrt53 (zA hN rfl) rfl (zB (g _ _ (wp_cond_false (zA hN rfl) (wp_skip (d _ _ (zF fun _ d => ?_))))))))))))
 refine zH (zG (zC hN rfl e) (op_nil (zA hN rfl) (zM fld71_2 (zA hN rfl) (zN one69 (zA hN rfl) (hk.cell rfl) (zG (zC hN rfl f) (op_look2_hit (k := id) (v := at_) Try.underlying69 (Go.Gx.key_int Try.underlying57) zero80 (zA hN rfl) (zA hN rfl) hMm hm (zG (zA hN rfl) (zW (zA hN rfl) rfl (zW (zA hN rfl) rfl (op_alloc (cs := [(.int .i64 0), (.int .i64 0)]) zero80 rfl ?_))))))))))
 intro p j o n f l
 have n : ¬ F0 j := fun hf => by have := (hA.lt _ hf).2; omega
 obtain ⟨hb, _⟩ := yG hb l
 have hk := hk.keep0 l
 have o := f
 refine zZ size80 (zA hN rfl) (zA hN rfl) rfl rfl f rfl ?_
 intro q f p
 have := p.size
 have hk := hk.keep p (sN hk o)
 have hA := (hA.kz l).keepG (Gr.of p) (Dj.one n)
 have hPm := (hPm.keep0 l).keepB o p
 have hMm := (hMm.keep0 l).keepB o p
 have hb := hb.step1 p zx
 refine zD (zA hN rfl) ?_
 refine zB (d _ _ (zF fun _ d => zF fun _ g => zH (zG (zA hN rfl) (op_not (zA hN rfl) (zB (g _ _ (wp_cond_false (zA hN rfl) (wp_skip (d _ _ (zF fun _ d => reg_split (hd := [_, _, _, _, _, _, _, _, _]) (tl := _) 9 mixed zy rfl rfl (any_quiet (Φ := phiL [(fun uz _ => uz = (ptr k 0)), (fun uz _ => uz = (ptr k 0)), (fun uz _ => uz = (ptr k 0)), (fun uz _ => uz = (Value.map (some pm))), (fun uz _ => uz = (ptr j 0)), (fun uz _ => uz = (.int .i64 at_.1)), (fun uz _ => uz = (ptr a 0)), (fun uz _ => uz = (ptr j 1)), (fun uz _ => uz = (.int .i64 at_.2))]) zy zy zy hN (StL.get (StL.eq (StL.eq (StL.eq (StL.eq (StL.eq (StL.eq (StL.eq (StL.eq (StL.eq (StL.nil _))))))))))) (ObL.get (s := 9) (ObL.cons ?_ (ObL.cons ?_ (ObL.cons ?_ (ObL.cons ?_ (ObL.cons ?_ (ObL.cons ?_ (ObL.cons ?_ (ObL.cons ?_ (ObL.cons ?_ (ObL.nil)))))))))) rfl) ?_)))))))))))
 ·
  intro aA wA hNA hRA hbsA hdpA
  have g := (hbsA 0 rfl).trans (zL hN rfl e)
  refine zG (zC hNA rfl g) ?_
  exact obN_end rfl rfl (grown_refl _ _)
 ·
  intro aA wA hNA hRA hbsA hdpA
  have e : Sl aA 21 (ptr k 0) := hdpA 0 _ 21 zy rfl rfl
  refine op_nil (zC hNA rfl e) ?_
  exact obN_end rfl rfl (grown_refl _ _)
 ·
  intro aA wA hNA hRA hbsA hdpA
  have e : Sl aA 22 (ptr k 0) := hdpA 1 _ 22 zy rfl rfl
  refine zM fld71_0 (zC hNA rfl e) ?_
  exact obN_end rfl rfl (grown_refl _ _)
 ·
  intro aA wA hNA hRA hbsA hdpA
  have hRA : q.grownBy wA none := hRA
  have := hRA.size
  have hk := hk.keep0 hRA
  have e : Sl aA 23 (ptr k 0) := hdpA 2 _ 23 zy rfl rfl
  clear hbsA hdpA
  refine zN one68 (zC hNA rfl e) (hk.cell rfl) ?_
  exact obN_end rfl rfl (grown_refl _ _)
 ·
  intro aA wA hNA hRA hbsA hdpA
  have e := (hbsA 6 rfl).trans (zU hN rfl)
  refine zM fld80_0 (zC hNA rfl e) ?_
  exact obN_end rfl rfl (grown_refl _ _)
 ·
  intro aA wA hNA hRA hbsA hdpA
  have hRA : q.grownBy wA none := hRA
  have := hRA.size
  have f := f.keep0 hRA
  have g : Sl aA 25 (ptr j 0) := hdpA 4 _ 25 zy rfl rfl
  clear hbsA hdpA
  refine zN one3 (zC hNA rfl g) (f.cell rfl) ?_
  exact obN_end rfl rfl (grown_refl _ _)
 ·
  intro aA wA hNA hRA hbsA hdpA
  have hRA : q.grownBy wA none := hRA
  have := hRA.size
  have hPm := hPm.keep0 hRA
  have g : Sl aA 24 (Value.map (some pm)) := hdpA 3 _ 24 zy rfl rfl
  have l : Sl aA 26 (.int .i64 at_.1) := hdpA 5 _ 26 zy rfl rfl
  clear hbsA hdpA
  refine op_look_hit (k := at_.1) (v := a) Try.underlying68 (Go.Gx.key_int Try.underlying3) zero24 (zC hNA rfl g) (zC hNA rfl l) hPm c ?_
  exact obN_end rfl rfl (grown_refl _ _)
 ·
  intro aA wA hNA hRA hbsA hdpA
  have e := (hbsA 6 rfl).trans (zU hN rfl)
  refine zM fld80_1 (zC hNA rfl e) ?_
  exact obN_end rfl rfl (grown_refl _ _)
 ·
  intro aA wA hNA hRA hbsA hdpA
  have hRA : q.grownBy wA none := hRA
  have := hRA.size
  have f := f.keep0 hRA
  have e : Sl aA 28 (ptr j 1) := hdpA 7 _ 28 zy rfl rfl
  clear hbsA hdpA
  refine zN one3 (zC hNA rfl e) (f.cell rfl) ?_
  exact obN_end rfl rfl (grown_refl _ _)
 intro n p e j o l g
 have j := j.trans hd
 have r : Sl n 27 (ptr a 0) := l 6 _ 27 rfl rfl
 have a : Sl n 29 (.int .i64 at_.2) := l 8 _ 29 rfl rfl
 clear o l
 have g : q.grownBy p none := g
 obtain ⟨hb, _⟩ := yG hb g
 have hk := hk.keep0 g
 have hA := hA.kz g
 have hPm := hPm.keep0 g
 have hMm := hMm.keep0 g
 have f := f.keep0 g
 refine split_end (from_one (k' := 10) zy rfl rfl (zj ok15 (pa_get hA hg c zx at_.2 zx) ⟨(zC e rfl r), ⟨(zC e rfl a), trivial⟩⟩ ?_))
 rintro _ p ⟨c, g, rfl, a, l, n, o⟩
 have p := hk.lt
 have p := hPm.lt
 have p := hMm.lt
 have p := f.lt
 have f := a.mono (base' := w.heap.size) zx
 have := c.size
 have hb := hb.stepF c (fun _ _ h => h)
 have c : NewF w.heap.size F0 l := NewF.trans (NewF.refl _ _) o zx
 have a := f
 refine from_next (from_still (m := 14) 4 (hd := [_, _, _, _]) zy rfl rfl (st_step rfl (fun _ f => zW (zA e rfl) rfl f) (st_step rfl (fun _ f => zW (zA e rfl) rfl f) (st_step rfl (fun _ f => zD (zA e rfl) f) (st_step rfl (fun _ f => zD (zA e rfl) f) (st_nil (from_end ?_ rfl)))))))
 refine d _ _ (wp_ret (ret2 rfl j (zA e rfl) (zA e rfl) ⟨_, rfl, ?_⟩))
 have f := n
 rw [mput_same hg] at f
 exact ⟨hb, g, _, _, congrArg (fun z : Int => Value.tuple #[g, .int .i64 z]) hdg.1, hdg.2, a, f, c⟩

end Go.Proofs.Ytdhpalioifjfbaa

namespace Go.Proofs.Ytdhpalioifjfbaa
open Go.Gx Go.RowKit

theorem HeapR.zero {w : World} {base k : Nat} (h0 : base ≤ k) (hx : Bx w k 71 [.map none, .int .i64 0, .map none]) : HeapR w base k [] 0 (fun x => x = k) :=
  ⟨[], 0, [], ⟨_, _, [], NoB, h0, hx, PgAll.nil w base, .inl ⟨rfl, rfl, rfl, rfl⟩, fun x => ⟨.inl, fun q => q.elim id fun q => q.elim (fun q => (by cases q)) fun q => q.elim (fun q => (by cases q)) fun q => q.elim⟩⟩, HInv.nil 0, Int.le_refl _, Int.le_refl _, Nat.le_refl _, rfl⟩
theorem hNew_ret (w : World) : Ret Try.prog 27 #[] w (fun v' w' => Below w.heap.size w w' ∧ ∃ k F, v' = ptr k 0 ∧ HeapR w' w.heap.size k [] 0 F) :=
  (HNew_ret w).mono fun v' w' ⟨hb, k, hv, h0, hx⟩ => ⟨hb, k, _, hv, HeapR.zero h0 hx⟩
section
variable {base k m : Nat} {R : List (Int × By)} {F : Nat → Prop} {w : World} {id : Int}
theorem map_F {pm mm : Nat} {F0 : Nat → Prop} (hF : ∀ x, F x ↔ x = k ∨ (Value.map (some pm)) = .map (some x) ∨ (Value.map (some mm)) = .map (some x) ∨ F0 x) : F k ∧ F pm ∧ F mm ∧ ∀ x, F0 x → F x :=
  ⟨(hF _).2 (.inl rfl), (hF _).2 (.inr (.inl rfl)), (hF _).2 (.inr (.inr (.inl rfl))), fun x h => (hF x).2 (.inr (.inr (.inr h)))⟩
theorem new_F {pm mm : Nat} {F0 F1 : Nat → Prop} {n : Nat} (hF : ∀ x, F x ↔ x = k ∨ (Value.map (some pm)) = .map (some x) ∨ (Value.map (some mm)) = .map (some x) ∨ F0 x) (hN : NewF n F0 F1) : NewF n F (fun x => x = k ∨ (Value.map (some pm)) = .map (some x) ∨ (Value.map (some mm)) = .map (some x) ∨ F1 x) := fun x hx => by
  rcases hx with q | q | q | q
  · exact .inl ((hF x).2 (.inl q))
  · exact .inl ((hF x).2 (.inr (.inl q)))
  · exact .inl ((hF x).2 (.inr (.inr (.inl q))))
  · exact (hN x q).imp (fun q => (hF x).2 (.inr (.inr (.inr q)))) (fun q => q)
def putR (R : List (Int × By)) (id : Int) (r : By) : List (Int × By) := if badB r = true then R else mput R id r
def putO (r : By) : Int := if badB r = true then 7 else 0
theorem hPut_ret (id : Int) {r : By} {bv : Value} {Lo Bo : Nat} (h : HeapR w base k R m F) (hbase : base ≤ w.heap.size) (hm : m < 1000000) (hbr : RdC w Lo Bo 1 bv r.length (r.map u8v)) (hap : ∀ x, F x → x < Lo ∨ Bo ≤ x) (hBw : Bo ≤ w.heap.size) :
    Ret Try.prog 28 #[ptr k 0, .int .u64 id, bv] w (fun v' w' => Gr w w' F ∧ v' = .int .i64 (putO r) ∧ ∃ F', HeapR w' base k (putR R id r) (m + 1) F' ∧ NewF w.heap.size F F') := by
  obtain ⟨P, nx, M, ⟨v1, v2, ps, F0, hk, hx, hA, hMs, hF⟩, hI, hn0, hnm, hMl, rfl⟩ := h
  rcases hMs with ⟨rfl, rfl, rfl, rfl⟩ | ⟨pm, mm, rfl, rfl, hb1, hb2, hne, h1, h2⟩
  · have hFk : F k := (hF _).2 (.inl rfl)
    by_cases hbad : badB r = true
    · refine (HPut_nb (id := id) hbase hx hn0 (by omega) hbad hbr hBw).mono fun v' w' q => ?_
      obtain ⟨E, rfl, hx'⟩ := q
      unfold putO putR
      rw [if_pos hbad, if_pos hbad]
      refine ⟨E.mono fun x _ hx => hx ▸ hFk, rfl, _, ⟨[], nx, [], ⟨_, _, [], NoB, hk, hx', PgAll.nil _ _, .inl ⟨rfl, rfl, rfl, rfl⟩, fun x => Iff.rfl⟩, hI, hn0, by omega, by simp, rfl⟩, fun x hx => ?_⟩
      rcases hx with q | q | q | q
      · exact .inl (q ▸ hFk)
      · cases q
      · cases q
      · exact q.elim
    · have hbad : badB r = false := by simpa using hbad
      refine (HPut_ng (id := id) hbase hx hn0 (by omega) hbad hbr hBw).mono fun v' w' q => ?_
      obtain ⟨E, rfl, pm, mm, p, F1, l1, l2, hne, hx', h1, h2, hP⟩ := q
      have hz : PutsP [] nx r 0 (nx + 1, putK [] r) [(nx + 1, putN [] r)] (nx + 1) := .inr ⟨hbad, rfl, .inr ⟨rfl, rfl, rfl⟩⟩
      have hw := puts_new (id := id) hz hI hn0 hbad rfl
      have e1 : mput ([] : AM) id (nx + 1, putK [] r) = [(id, (nx + 1, putK [] r))] := rfl
      rw [e1] at hw
      unfold putO putR
      rw [if_neg (by rw [hbad]; decide), if_neg (by rw [hbad]; decide)]
      have hA' : PgAll w' base [(nx + 1, putN [] r)] [p] (fun x => NoB x ∨ F1 x) := (PgAll.nil w' base).snoc (hP.mono hbase) (fun x h => h.elim)
      refine ⟨E.mono fun x _ hx => hx ▸ hFk, rfl, _, ⟨[(nx + 1, putN [] r)], nx + 1, _, ⟨_, _, [p], _, hk, hx', hA', .inr ⟨pm, mm, rfl, rfl, by omega, by omega, hne, h1, h2⟩, fun x => Iff.rfl⟩, hw.1, by omega, by omega, by simp, hw.2.symm⟩, fun x hx => ?_⟩
      rcases hx with q | q | q | q | q
      · exact .inl (q ▸ hFk)
      · injection q with q; injection q with q; exact .inr (q ▸ l1)
      · injection q with q; injection q with q; exact .inr (q ▸ l2)
      · exact q.elim
      · exact .inr (hP.lt x q).1
  · obtain ⟨f1, f2, f3, f4⟩ := map_F hF
    have hPl : P.length ≤ 1000000 := by have := hI.pages; omega
    have fin : ∀ (v' : Value) (w' : World), (Gr w w' (fun x => x = k ∨ x = pm ∨ x = mm ∨ F0 x) ∧ ∃ (e nx' : Int) (P' : PM) (M' : AM) (ps' : List Nat) (F0' : Nat → Prop), v' = .int .i64 e ∧ Bx w' k 71 [.map (some pm), .int .i64 nx', .map (some mm)] ∧ PgAll w' base P' ps' F0' ∧ MapC (Value.int .i64) pv w' pm (esP P' ps') ∧ MapC (Value.int .u64) plv w' mm M' ∧ PutZ P nx M id r e P' nx' M' ∧ NewF w.heap.size F0 F0') →
        (Gr w w' F ∧ v' = .int .i64 (putO r) ∧ ∃ F', HeapR w' base k (putR (recs P M) id r) (m + 1) F' ∧ NewF w.heap.size F F') := fun v' w' q => by
      obtain ⟨E, e, nx', P', M', ps', F0', rfl, hx', hA', h1', h2', ⟨z1, z2, z3, z4, z5⟩, hN⟩ := q
      refine ⟨E.mono fun x _ hx => ?_, ?_, _, ⟨P', nx', M', ⟨_, _, ps', F0', hk, hx', hA', .inr ⟨pm, mm, rfl, rfl, hb1, hb2, hne, h1', h2'⟩, fun x => Iff.rfl⟩, z4, z1, by omega, by omega, ?_⟩, new_F hF hN⟩
      · rcases hx with rfl | rfl | rfl | hx
        · exact f1
        · exact f2
        · exact f3
        · exact f4 x hx
      · unfold putO
        rcases z5 with ⟨a, b, c⟩ | ⟨a, b, c⟩
        · rw [if_pos a, b]
        · rw [if_neg (by rw [a]; decide), b]
      · unfold putR
        rcases z5 with ⟨a, b, c⟩ | ⟨a, b, c⟩
        · rw [if_pos a, c]
        · rw [if_neg (by rw [a]; decide), c]
    cases hg : mget M id with
    | none => exact (HPut_miss hbase hx hA h1 h2 hne hI (by omega) hn0 hPl hg hbr (fun x hx => hap x (f4 x hx)) hBw).mono fin
    | some at_ => exact (HPut_hit hbase hx hA h1 h2 hne hI (by omega) hn0 hPl hg hbr (fun x hx => hap x (f4 x hx)) hBw).mono fin
theorem hDrop_ret (id : Int) (h : HeapR w base k R m F) (hbase : base ≤ w.heap.size) :
    Ret Try.prog 29 #[ptr k 0, .int .u64 id] w (fun v' w' => Gr w w' F ∧ v' = .int .i64 (if (mget R id).isSome = true then 0 else 22) ∧ ∃ F', HeapR w' base k (mdel R id) m F' ∧ NewF w.heap.size F F') := by
  have h0 := h
  obtain ⟨P, nx, M, ⟨v1, v2, ps, F0, hk, hx, hA, hMs, hF⟩, hI, hn0, hnm, hMl, rfl⟩ := h
  have none_ : ∀ (v' : Value) (w' : World), mget (recs P M) id = none → (Below w.heap.size w w' ∧ v' = .int .i64 22) → (Gr w w' F ∧ v' = .int .i64 (if (mget (recs P M) id).isSome = true then 0 else 22) ∧ ∃ F', HeapR w' base k (mdel (recs P M) id) m F' ∧ NewF w.heap.size F F') := fun v' w' hr q => by
    rw [hr]
    have hd : mdel (recs P M) id = recs P M := by
      unfold mdel
      have : mlook (recs P M) id = none := by unfold mget at hr; simpa using hr
      rw [this]
    rw [hd]
    exact ⟨Gr.ofBelow q.1 F, q.2, F, h0.keepG (Gr.of0 (grown_of_below q.1) NoB) (fun _ _ h => h), NewF.refl _ _⟩
  rcases hMs with ⟨rfl, rfl, rfl, rfl⟩ | ⟨pm, mm, rfl, rfl, hb1, hb2, hne, h1, h2⟩
  · exact (HDrop_n (id := id) hbase hx).mono fun v' w' q => none_ v' w' rfl q
  · cases hg : mget M id with
    | none => exact (HDrop_miss hbase hx hA h1 h2 hne hg).mono fun v' w' q => none_ v' w' (recs_none hg) q
    | some at_ =>
      refine (HDrop_hit hbase hx hA h1 h2 hne hI hg).mono fun v' w' q => ?_
      obtain ⟨E, rfl, P', ps', F0', hA', h1', h2', hD, hN⟩ := q
      obtain ⟨f1, f2, f3, f4⟩ := map_F hF
      have hd := drops_done hI hg hD
      have hr : (mget (recs P M) id).isSome = true := by rw [recs_get, hg]; rfl
      rw [if_pos hr]
      refine ⟨E.mono fun x _ hx => ?_, rfl, _, ⟨P', nx, mdel M id, ⟨_, _, ps', F0', hk, hx.keepG E ?_, hA', .inr ⟨pm, mm, rfl, rfl, hb1, hb2, hne, h1', h2'⟩, fun x => Iff.rfl⟩, hd.1, hn0, hnm, Nat.le_trans mdel_len hMl, hd.2.symm⟩, new_F hF hN⟩
      · rcases hx with rfl | rfl | hx
        · exact f2
        · exact f3
        · exact f4 x hx
      · rintro (q | q | q)
        · exact hx.notMap h1 q
        · exact hx.notMap h2 q
        · exact hA.notBx hx (by decide) (by decide) q
theorem hGet_hit {b : By} (h : HeapR w base k R m F) (hbase : base ≤ w.heap.size) (hg : mget R id = some b) :
    Ret Try.prog 30 #[ptr k 0, .int .u64 id] w (fun v' w' => Gr w w' F ∧ ∃ x F', v' = .tuple #[x, .int .i64 0] ∧ Own w' w.heap.size 5 1 x b.length (b.map u8v) ∧ HeapR w' base k R m F' ∧ NewF w.heap.size F F') := by
  obtain ⟨P, nx, M, ⟨v1, v2, ps, F0, hk, hx, hA, hMs, hF⟩, hI, hn0, hnm, hMl, rfl⟩ := h
  rcases hMs with ⟨rfl, rfl, rfl, rfl⟩ | ⟨pm, mm, rfl, rfl, hb1, hb2, hne, h1, h2⟩
  · cases hg
  · obtain ⟨at_, hm⟩ : ∃ at_, mget M id = some at_ := by
      cases hq : mget M id with
      | none => rw [recs_none hq] at hg; cases hg
      | some a => exact ⟨a, rfl⟩
    refine (HGet_hit hbase hx hA h1 h2 hne hI hm).mono fun v' w' q => ?_
    obtain ⟨E, x, b', F0', rfl, hg', hO, hA', hN⟩ := q
    obtain rfl : b' = b := Option.some.inj (hg'.symm.trans hg)
    obtain ⟨f1, f2, f3, f4⟩ := map_F hF
    refine ⟨E.mono fun x _ hx => f4 x hx, x, _, rfl, hO, ⟨P, nx, M, ⟨_, _, ps, F0', hk, hx.keepG E (hA.notBx hx (by decide) (by decide)), hA', .inr ⟨pm, mm, rfl, rfl, hb1, hb2, hne, h1.keepG E (hA.notMap h1), h2.keepG E (hA.notMap h2)⟩, fun x => Iff.rfl⟩, hI, hn0, hnm, hMl, rfl⟩, new_F hF hN⟩
theorem hGet_miss (h : HeapR w base k R m F) (hbase : base ≤ w.heap.size) (hg : mget R id = none) :
    Ret Try.prog 30 #[ptr k 0, .int .u64 id] w (fun v' w' => Below w.heap.size w w' ∧ v' = .tuple #[.slice none 0 0, .int .i64 22]) := by
  obtain ⟨P, nx, M, ⟨v1, v2, ps, F0, hk, hx, hA, hMs, hF⟩, hI, hn0, hnm, hMl, rfl⟩ := h
  rcases hMs with ⟨rfl, rfl, rfl, rfl⟩ | ⟨pm, mm, rfl, rfl, hb1, hb2, hne, h1, h2⟩
  · exact HGet_n (id := id) hbase hx
  · refine HGet_miss hbase hx hA h1 h2 hne ?_
    rw [recs_get] at hg; simpa using hg
theorem hLen_ret (h : HeapR w base k R m F) (hbase : base ≤ w.heap.size) : Ret Try.prog 31 #[ptr k 0] w (fun v' w' => Below w.heap.size w w' ∧ v' = .int .i64 (R.length : Int)) := by
  obtain ⟨P, nx, M, ⟨v1, v2, ps, F0, hk, hx, hA, hMs, hF⟩, hI, hn0, hnm, hMl, rfl⟩ := h
  rw [recs_len]
  rcases hMs with ⟨rfl, rfl, rfl, rfl⟩ | ⟨pm, mm, rfl, rfl, hb1, hb2, hne, h1, h2⟩
  · exact HLen_n hbase hx
  · exact HLen_m hbase hx hA h1 h2 hne
theorem hPages_ret (h : HeapR w base k R m F) (hbase : base ≤ w.heap.size) : Ret Try.prog 32 #[ptr k 0] w (fun v' w' => Below w.heap.size w w' ∧ ∃ n : Nat, v' = .int .i64 (n : Int) ∧ n ≤ R.length) := by
  obtain ⟨P, nx, M, ⟨v1, v2, ps, F0, hk, hx, hA, hMs, hF⟩, hI, hn0, hnm, hMl, rfl⟩ := h
  rw [recs_len]
  rcases hMs with ⟨rfl, rfl, rfl, rfl⟩ | ⟨pm, mm, rfl, rfl, hb1, hb2, hne, h1, h2⟩
  · exact (HPages_n hbase hx).mono fun v' w' q => ⟨q.1, 0, q.2, Nat.le_refl _⟩
  · exact (HPages_m hbase hx hA h1 h2 hne).mono fun v' w' q => ⟨q.1, _, q.2, by rw [esP_len hA.1]; exact hI.pages⟩
theorem HeapR.len (h : HeapR w base k R m F) : R.length ≤ m := by
  obtain ⟨P, nx, M, _, _, _, _, hMl, rfl⟩ := h
  rw [recs_len]; exact hMl
theorem HeapR.nodup (h : HeapR w base k R m F) : (R.map Prod.fst).Nodup := by
  obtain ⟨P, nx, M, _, hI, _, _, hMl, rfl⟩ := h
  rw [recs_keys]; exact hI.km
end
end Go.Proofs.Ytdhpalioifjfbaa

namespace Go.Proofs.Ytdhpalioifjfbaa
open Go.Gx Go.Sort Go.RowKit
def u64v (x : UInt64) : Value := .int .u64 (x.toNat : Int)
abbrev Ar := Array UInt64
def ltT (x y : UInt64) : Bool := decide (x.toNat < y.toNat)
theorem swoT : SWO ltT where
  irrefl := fun x => by simp [ltT]
  trans := fun x y z h1 h2 => by simp [ltT] at *; omega
  ntrans := fun x y z h1 h2 => by simp [ltT] at *; omega
theorem el_arr {d : Ar} {e : Int} {i : Nat} (he : e = (i : Int)) (h : i < d.size) : (d.toList.map u64v)[e.toNat * 1 + 0]? = some (Value.int .u64 (d[i]!.toNat : Int)) := by
  subst he
  have e1 : d[i]! = d[i] := by simp [h]
  rw [e1]; simp [u64v, h]
theorem el_at {d : Ar} {i : Nat} (h : i < d.size) : (d.toList.map u64v)[i + 0]? = some (Value.int .u64 (d[i]!.toNat : Int)) := by
  have := el_arr (d := d) (e := (i : Int)) rfl h
  simpa using this
theorem set_arr {d : Ar} {i : Nat} {x : UInt64} (h : i < d.size) : (d.toList.map u64v).take i ++ [Value.int .u64 (x.toNat : Int)] ++ (d.toList.map u64v).drop (i + [Value.int .u64 (x.toNat : Int)].length) = (d.setIfInBounds i x).toList.map u64v := by
  have h' : i < d.toList.length := by simpa using h
  rw [Array.toList_setIfInBounds, List.set_eq_take_append_cons_drop, if_pos h']
  simp [u64v]
theorem ltT_t {x y : UInt64} (h : (x.toNat : Int) < (y.toNat : Int)) : ltT x y = true := decide_eq_true (by omega)
theorem ltT_f {x y : UInt64} (h : ¬ (x.toNat : Int) < (y.toNat : Int)) : ltT x y = false := decide_eq_false (by omega)
theorem swp_sz (d : Ar) (i j : Nat) : (swp d i j).size = d.size := size_swp d i j
/-! how many bits a number has -/
def tab8 : List UInt8 := [0, 1, 2, 2, 3, 3, 3, 3] ++ List.replicate 8 4 ++ List.replicate 16 5 ++ List.replicate 32 6 ++ List.replicate 64 7 ++ List.replicate 128 8
theorem tab8_len {z : Nat} (h : z < 256) : (tab8.getD z 0).toNat = bitsLen z := by
  have : ∀ i : Fin 256, (tab8.getD i.val 0).toNat = bitsLen i.val := by decide +kernel
  exact this ⟨z, h⟩
theorem tab8_sz : tab8.length = 256 := by decide +kernel
theorem bits_shift {n k : Nat} (h : 2 ^ k ≤ n) : bitsLen n = k + bitsLen (n / 2 ^ k) := by
  have key : ∀ m, bitsLen n ≤ m ↔ k + bitsLen (n / 2 ^ k) ≤ m := by
    intro m
    rw [bitsLen_le_iff]
    by_cases hm : m < k
    · constructor
      · intro h1
        have := Nat.pow_lt_pow_right (show 1 < 2 by decide) hm
        omega
      · intro h1; omega
    · obtain ⟨j, rfl⟩ : ∃ j, m = k + j := ⟨m - k, by omega⟩
      rw [show (k + bitsLen (n / 2 ^ k) ≤ k + j) ↔ bitsLen (n / 2 ^ k) ≤ j by omega, bitsLen_le_iff, Nat.div_lt_iff_lt_mul (Nat.two_pow_pos k), ← Nat.pow_add, Nat.add_comm j k]
  exact Nat.le_antisymm ((key _).2 (Nat.le_refl _)) ((key _).1 (Nat.le_refl _))
theorem bits_32 {n : Nat} (h : 4294967296 ≤ n) : bitsLen n = 32 + bitsLen (n / 4294967296) := bits_shift (k := 32) h
theorem bits_16 {n : Nat} (h : 65536 ≤ n) : bitsLen n = 16 + bitsLen (n / 65536) := bits_shift (k := 16) h
theorem bits_8 {n : Nat} (h : 256 ≤ n) : bitsLen n = 8 + bitsLen (n / 256) := bits_shift (k := 8) h
/-! the loops of the sort -/
theorem insInner_go {a j : Nat} {d : Ar} (hj : a < j) (hl : ltT d[j]! d[j - 1]! = true) : insInner ltT a j d = insInner ltT a (j - 1) (swp d j (j - 1)) := by
  obtain ⟨k, rfl⟩ : ∃ k, j = k + 1 := ⟨j - 1, by omega⟩
  rw [insInner]
  simp only [Nat.add_sub_cancel] at hl ⊢
  simp [hj, hl]
theorem insInner_stop {a j : Nat} {d : Ar} (h : j ≤ a ∨ ltT d[j]! d[j - 1]! = false) : insInner ltT a j d = d := by
  cases j with
  | zero => rw [insInner]
  | succ k =>
    rw [insInner]
    simp only [Nat.add_sub_cancel] at h
    rcases h with h | h
    · simp [show ¬ k + 1 > a by omega]
    · simp [h]
theorem insOuter_go {a b i : Nat} {d : Ar} (h : i < b) : insOuter ltT a b i d = insOuter ltT a b (i + 1) (insInner ltT a i d) := by rw [insOuter, if_pos h]
theorem insOuter_stop {a b i : Nat} {d : Ar} (h : ¬ i < b) : insOuter ltT a b i d = d := by rw [insOuter, if_neg h]
theorem siftDown_stop {hi first root : Nat} {d : Ar} (h : hi ≤ 2 * root + 1) : siftDown ltT hi first root d = d := by rw [siftDown, dif_pos h]
def childS (hi first root : Nat) (d : Ar) : Nat := if 2 * root + 1 + 1 < hi && ltT d[first + (2 * root + 1)]! d[first + (2 * root + 1) + 1]! then 2 * root + 2 else 2 * root + 1
theorem siftDown_ret {hi first root : Nat} {d : Ar} (h : ¬ hi ≤ 2 * root + 1) (hl : ltT d[first + root]! d[first + childS hi first root d]! = false) : siftDown ltT hi first root d = d := by
  rw [siftDown, dif_neg h]
  unfold childS at hl
  split
  · rename_i hc; rw [if_pos hc] at hl; simp [hl]
  · rename_i hc; rw [if_neg hc] at hl; simp [hl]
theorem siftDown_go {hi first root : Nat} {d : Ar} (h : ¬ hi ≤ 2 * root + 1) (hl : ltT d[first + root]! d[first + childS hi first root d]! = true) : siftDown ltT hi first root d = siftDown ltT hi first (childS hi first root d) (swp d (first + root) (first + childS hi first root d)) := by
  rw [siftDown, dif_neg h]
  unfold childS at hl ⊢
  split
  · rename_i hc
    rw [if_pos hc] at hl
    try rw [if_pos hc]
    simp only [hl, Bool.not_true, Bool.false_eq_true, if_false]
    simp only [Bool.and_eq_true, decide_eq_true_eq] at hc
    rw [dif_pos (by omega)]
  · rename_i hc
    rw [if_neg hc] at hl
    try rw [if_neg hc]
    simp [hl]
theorem childS_lt {hi first root : Nat} {d : Ar} (h : ¬ hi ≤ 2 * root + 1) : childS hi first root d < hi ∧ root < childS hi first root d := by
  unfold childS
  split
  · rename_i hc; simp only [Bool.and_eq_true, decide_eq_true_eq] at hc; omega
  · omega
theorem siftDown_sz : ∀ (n hi first root : Nat) (d : Ar), hi - root ≤ n → (siftDown ltT hi first root d).size = d.size
  | n, hi, first, root, d, hn => by
    by_cases h : hi ≤ 2 * root + 1
    · rw [siftDown_stop h]
    · rcases hl : ltT d[first + root]! d[first + childS hi first root d]! with _ | _
      · rw [siftDown_ret h hl]
      · have hc := childS_lt (first := first) (d := d) h
        cases n with
        | zero => omega
        | succ n => rw [siftDown_go h hl, siftDown_sz n _ _ _ _ (by omega), size_swp]
theorem siftDown_size {hi first root : Nat} {d : Ar} : (siftDown ltT hi first root d).size = d.size := siftDown_sz _ hi first root d (Nat.le_refl _)
abbrev PI (a b : Nat) (d d' : Ar) : Prop := PermIn a b d d'
theorem PI.sz {a b : Nat} {d d' : Ar} (h : PI a b d d') : d'.size = d.size := h.1
theorem PI.rfl' (a b : Nat) (d : Ar) : PI a b d d := permIn_refl d a b
theorem PI.tr {a b : Nat} {d d' d'' : Ar} (h : PI a b d d') (h' : PI a b d' d'') : PI a b d d'' := permIn_trans d d' d'' a b h h'
theorem PI.mono {a b a' b' : Nat} {d d' : Ar} (h : PI a b d d') (ha : a' ≤ a) (hb : b ≤ b') (hs : b' ≤ d.size) : PI a' b' d d' := permIn_mono d d' a b a' b' ha hb hs h
theorem PI.all {a b : Nat} {d d' : Ar} (h : PI a b d d') (hb : b ≤ d.size) (p : UInt64 → Prop) (hp : ∀ i, a ≤ i → i < b → p d[i]!) : ∀ i, a ≤ i → i < b → p d'[i]! := permIn_all d d' a b p hb h hp
theorem PI.swp {a b i j : Nat} {d : Ar} (h1 : a ≤ i) (h2 : i < b) (h3 : a ≤ j) (h4 : j < b) (hb : b ≤ d.size) : PI a b d (swp d i j) := swp_permIn d a b i j h1 h2 h3 h4 hb
theorem PI.below {a b : Nat} {d d' : Ar} (h : PI a b d d') (hb : b ≤ d.size) (hB : Go.Sort.Below ltT a b d) : Go.Sort.Below ltT a b d' := by
  rcases hB with hB | hB
  · exact .inl hB
  · by_cases ha : a = 0
    · exact .inl ha
    · refine .inr fun i h1 h2 => ?_
      have e : d'[a - 1]! = d[a - 1]! := h.2.1 (a - 1) (.inl (by omega))
      rw [e]
      exact h.all hb (fun x => ltT x d[a - 1]! = false) hB i h1 h2
def Left (a b x y : Nat) (d : Ar) : Prop := ∀ d', PI x y d d' → SortedIn ltT x y d' → SortedIn ltT a b d'
theorem Left.start (a b : Nat) (d : Ar) : Left a b a b d := fun _ _ h => h
theorem Left.perm {a b x y : Nat} {d d1 : Ar} (h : Left a b x y d) (hp : PI x y d d1) : Left a b x y d1 := fun d' h1 h2 => h d' (hp.tr h1) h2
theorem Left.equal {a b x y m : Nat} {d d1 : Ar} {pv : UInt64} (h : Left a b x y d) (hp : PI x y d d1) (hxm : x ≤ m) (hmy : m ≤ y) (hy : y ≤ d.size)
    (h1 : ∀ i, x ≤ i → i < m → ltT pv d1[i]! = false) (h1' : ∀ i, x ≤ i → i < y → ltT d1[i]! pv = false) (h2 : ∀ i, m ≤ i → i < y → ltT pv d1[i]! = true) : Left a b m y d1 := by
  intro d' hp' hs
  refine h d' (hp.tr (hp'.mono hxm (Nat.le_refl _) (by rw [hp.sz]; exact hy))) fun i j hi hij hj => ?_
  have hb1 : y ≤ d1.size := by rw [hp.sz]; exact hy
  by_cases him : m ≤ i
  · exact hs i j him hij hj
  · have ei : d'[i]! = d1[i]! := hp'.2.1 i (.inl (by omega))
    rw [ei]
    have g1 := h1 i hi (by omega)
    have g1' := h1' i hi (by omega)
    by_cases hjm : m ≤ j
    · have g2 := hp'.all hb1 (fun z => ltT pv z = true) h2 j hjm hj
      simp [ltT] at *; omega
    · have ej : d'[j]! = d1[j]! := hp'.2.1 j (.inl (by omega))
      rw [ej]
      have g2 := h1 j (by omega) (by omega)
      have g2' := h1' j (by omega) hj
      simp [ltT] at *; omega
theorem Left.right {a b x y m : Nat} {d d1 d2 : Ar} (h : Left a b x y d) (hp : PI x y d d1) (hxm : x ≤ m) (hmy : m < y) (hy : y ≤ d.size)
    (h1 : ∀ i, x ≤ i → i < m → ltT d1[i]! d1[m]! = true) (h2 : ∀ i, m < i → i < y → ltT d1[i]! d1[m]! = false) (hq : PI x m d1 d2) (hs : SortedIn ltT x m d2) : Left a b (m + 1) y d2 := by
  intro d' hp' hs'
  have hb1 : y ≤ d1.size := by rw [hp.sz]; exact hy
  have hb2 : y ≤ d2.size := by rw [hq.sz]; exact hb1
  have hq' := hq.mono (a' := x) (b' := y) (Nat.le_refl _) (by omega) hb1
  have e0 : d2[m]! = d1[m]! := hq.2.1 m (.inr (Nat.le_refl _))
  have e1 : d'[m]! = d1[m]! := (hp'.2.1 m (.inl (by omega))).trans e0
  have l1 : ∀ i, x ≤ i → i < m → ltT d'[i]! d1[m]! = true := fun i hi him => by
    have e : d'[i]! = d2[i]! := hp'.2.1 i (.inl (by omega))
    rw [e]; exact hq.all (by omega) (fun z => ltT z d1[m]! = true) h1 i hi him
  have l2 : ∀ i, m + 1 ≤ i → i < y → ltT d'[i]! d1[m]! = false := fun i hi hiy =>
    hp'.all hb2 (fun z => ltT z d1[m]! = false) (fun k hk hky => by
      have e : d2[k]! = d1[k]! := hq.2.1 k (.inr (by omega))
      rw [e]; exact h2 k (by omega) hky) i hi hiy
  refine h d' (hp.tr (hq'.tr (hp'.mono (by omega) (Nat.le_refl _) hb2))) fun i j hi hij hj => ?_
  rcases Nat.lt_trichotomy i m with him | him | him
  · rcases Nat.lt_trichotomy j m with hjm | hjm | hjm
    · have ei : d'[i]! = d2[i]! := hp'.2.1 i (.inl (by omega))
      have ej : d'[j]! = d2[j]! := hp'.2.1 j (.inl (by omega))
      rw [ei, ej]; exact hs i j hi hij hjm
    · subst hjm; rw [e1]; have := l1 i hi him; simp [ltT] at *; omega
    · have g1 := l1 i hi him; have g2 := l2 j (by omega) hj; simp [ltT] at *; omega
  · subst him; rw [e1]; exact l2 j (by omega) hj
  · exact hs' i j (by omega) hij hj
theorem Left.left {a b x y m : Nat} {d d1 d2 : Ar} (h : Left a b x y d) (hp : PI x y d d1) (hxm : x ≤ m) (hmy : m < y) (hy : y ≤ d.size)
    (h1 : ∀ i, x ≤ i → i < m → ltT d1[i]! d1[m]! = true) (h2 : ∀ i, m < i → i < y → ltT d1[i]! d1[m]! = false) (hq : PI (m + 1) y d1 d2) (hs : SortedIn ltT (m + 1) y d2) : Left a b x m d2 := by
  intro d' hp' hs'
  have hb1 : y ≤ d1.size := by rw [hp.sz]; exact hy
  have hb2 : y ≤ d2.size := by rw [hq.sz]; exact hb1
  have hq' := hq.mono (a' := x) (b' := y) (by omega) (Nat.le_refl _) hb1
  have e0 : d2[m]! = d1[m]! := hq.2.1 m (.inl (by omega))
  have e1 : d'[m]! = d1[m]! := (hp'.2.1 m (.inr (Nat.le_refl _))).trans e0
  have l1 : ∀ i, x ≤ i → i < m → ltT d'[i]! d1[m]! = true := fun i hi him =>
    hp'.all (by omega) (fun z => ltT z d1[m]! = true) (fun k hk hkm => by
      have e : d2[k]! = d1[k]! := hq.2.1 k (.inl (by omega))
      rw [e]; exact h1 k hk hkm) i hi him
  have l2 : ∀ i, m + 1 ≤ i → i < y → ltT d'[i]! d1[m]! = false := fun i hi hiy => by
    have e : d'[i]! = d2[i]! := hp'.2.1 i (.inr (by omega))
    rw [e]; exact hq.all hb1 (fun z => ltT z d1[m]! = false) (fun k hk hky => h2 k (by omega) hky) i hi hiy
  refine h d' (hp.tr (hq'.tr (hp'.mono (Nat.le_refl _) (by omega) hb2))) fun i j hi hij hj => ?_
  rcases Nat.lt_trichotomy i m with him | him | him
  · rcases Nat.lt_trichotomy j m with hjm | hjm | hjm
    · exact hs' i j hi hij hjm
    · subst hjm; rw [e1]; have := l1 i hi him; simp [ltT] at *; omega
    · have g1 := l1 i hi him; have g2 := l2 j (by omega) hj; simp [ltT] at *; omega
  · subst him; rw [e1]; exact l2 j (by omega) hj
  · have ei : d'[i]! = d2[i]! := hp'.2.1 i (.inr (by omega))
    have ej : d'[j]! = d2[j]! := hp'.2.1 j (.inr (by omega))
    rw [ei, ej]; exact hs i j (by omega) hij hj
end Go.Proofs.Ytdhpalioifjfbaa

namespace Go.Proofs.Ytdhpalioifjfbaa
open Go.Gx Go.RowKit
attribute [local irreducible] wpList wpStill Code.wp Calls
open Go.Sort (insertionSort insOuter insInner swp siftDown heapSort heapBuild heapPop scanUp scanDown partition partLoop partitionEqual partEqLoop scanSorted partialIns bitsLen partialInsertionSort shiftDown shiftUp SortedIn reverseRange reverseLoop fixDown fixUp)
theorem isNaN16_ret (m : UInt64) (w : World) : Ret Try.prog 92 #[(.int .u64 (m.toNat : Int))] w (fun v' w' => v' = .bool false ∧ w' = w) := by
 refine enter (N := 6) Try.func92 rfl rfl (by simp) fun a hN hd hA => ?_
 have b : a.tmps.getD 0 undef = (.int .u64 (m.toNat : Int)) := hA 0 (by simp)
 clear hA
 refine zF fun _ a => zH (zD rfl (zB (a _ _ (zF fun _ a => zH (zG (zC hN rfl b) (zG (zC hN rfl b) (op_neq (zA hN rfl) (zA hN rfl) (fun c => ?_) (fun c => ?_))))))))
 ·
  refine zD (zA hN rfl) (zB (a _ _ (wp_ret (ret1 rfl hd (zA hN rfl) ⟨_, rfl, ?_⟩))))
  exact (c rfl).elim
 refine zD (zA hN rfl) (zB (a _ _ (wp_ret (ret1 rfl hd (zA hN rfl) ⟨_, rfl, ?_⟩))))
 exact ⟨rfl, rfl⟩

theorem Less16_ret (x y : UInt64) (w : World) : Ret Try.prog 73 #[(.int .u64 (x.toNat : Int)), (.int .u64 (y.toNat : Int))] w (fun v' w' => v' = .bool (ltT x y) ∧ w' = w) := by
 refine enter (N := 17) Try.func73 rfl rfl (by simp) fun a hN hd hA => ?_
 have c : a.tmps.getD 0 undef = (.int .u64 (x.toNat : Int)) := hA 0 (by simp)
 have d : a.tmps.getD 1 undef = (.int .u64 (y.toNat : Int)) := hA 1 (by simp)
 clear hA
 refine zF fun _ a => zH ?_
 refine zD rfl (zB (a _ _ (zF fun _ a => zH (zG (zC hN rfl c) (ze (vs := [(.int .u64 (x.toNat : Int))]) ok92 ⟨(zA hN rfl), trivial⟩ (Ret.flip (isNaN16_ret x _)) ?_)))))
 rintro _ _ ⟨rfl, rfl⟩
 refine zG (zA hN rfl) (zR (j := 2) (dj := 7) (b := true) rfl rfl rfl (zA hN rfl) rfl rfl ?_)
 refine zR (j := 2) (dj := 7) (b := true) rfl rfl rfl (zA hN rfl) rfl rfl (zR (j := 2) (dj := 7) (b := true) rfl rfl rfl (zA hN rfl) rfl rfl (zd (zA hN rfl) rfl (zG (zA hN rfl) (zS (j := 7) (dj := 12) (b := false) rfl rfl rfl (zA hN rfl) (zG (zC hN rfl c) (zS (j := 7) (dj := 12) (b := false) rfl rfl rfl (zA hN rfl) (zG (zC hN rfl d) (zS (j := 7) (dj := 12) (b := false) rfl rfl rfl (zA hN rfl) (op_lss (zA hN rfl) (zA hN rfl) (fun e => ?_) (fun e => ?_))))))))))
 ·
  refine zd (zA hN rfl) (zA hN rfl) (zD (zA hN rfl) (zB (a _ _ (wp_ret (ret1 rfl hd (zA hN rfl) ⟨_, rfl, ?_⟩)))))
  exact ⟨congrArg Value.bool (ltT_t e).symm, rfl⟩
 refine zd (zA hN rfl) (zA hN rfl) (zD (zA hN rfl) (zB (a _ _ (wp_ret (ret1 rfl hd (zA hN rfl) ⟨_, rfl, ?_⟩)))))
 exact ⟨congrArg Value.bool (ltT_f e).symm, rfl⟩

theorem insSort_ret (d : Ar) (v : Value) (n base : Nat) (a b : Nat) (w : World) (hd : d.size = n) (hn : n ≤ 4000000000000000000) (O : Own w base 57 1 v n (d.toList.map u64v)) (hab : a ≤ b) (hbn : b ≤ n) : Ret Try.prog 67 #[v, (.int .i64 ((a : Nat) : Int)), (.int .i64 ((b : Nat) : Int))] w (fun v' w' => w.grownBy w' v.ownBlock ∧ v' = .tuple #[] ∧ Own w' base 57 1 v n ((insertionSort ltT d a b).toList.map u64v)) := by
 have hb := grown_refl w v.ownBlock
 refine enter (N := 49) Try.func67 rfl rfl (by simp) fun c hN hd hA => ?_
 have f : c.tmps.getD 0 undef = v := hA 0 (by simp)
 have g : c.tmps.getD 1 undef = (.int .i64 ((a : Nat) : Int)) := hA 1 (by simp)
 have k : c.tmps.getD 2 undef = (.int .i64 ((b : Nat) : Int)) := hA 2 (by simp)
 clear hA
 refine zF fun _ c => zH (zG (zC hN rfl g) (op_add (zA hN rfl) rfl (add64 zx) (zD (zA hN rfl) (zB (c _ _ (wp_block (loop_m (fun mz_ az_ w' => ∃ (i : Nat) (dk : Ar), mz_ = b - i ∧ (Sl az_ 0 v) ∧ (Sl az_ 1 (.int .i64 ((a : Nat) : Int))) ∧ (Sl az_ 2 (.int .i64 ((b : Nat) : Int))) ∧ (Sl az_ 6 (.int .i64 ((i : Nat) : Int))) ∧ (dk.size = n) ∧ (a + 1 ≤ i ∧ (i ≤ b ∨ i = a + 1)) ∧ (insOuter ltT a b (a + 1) d = insOuter ltT a b i dk) ∧ (w.grownBy w' v.ownBlock) ∧ (w.heap.size ≤ w'.heap.size) ∧ (Own w' base 57 1 v n (dk.toList.map u64v))) _ hN hd ⟨(a + 1), _, rfl, (zL hN rfl f), (zL hN rfl g), (zL hN rfl k), (zU hN rfl).trans (congrArg (Value.int .i64) zx), (by first | assumption | (simp only [Array.size_setIfInBounds, swp_sz, siftDown_size]; assumption)), ⟨Nat.le_refl _, .inr rfl⟩, rfl, hb, (Nat.le_refl _), O⟩ ?_)))))))
 rintro _ s q f m ⟨i, dk, rfl, o, p, l, g, hdk, hi, ho, hb, r, k⟩
 have := hb.size
 refine zF fun _ c => zF fun _ r => zH (zG (zC f rfl g) (zG (zC f rfl l) (op_lss (zA f rfl) (zA f rfl) (fun s => ?_) (fun s => ?_))))
 ·
  refine zB (r _ _ (wp_cond_true (zA f rfl) (wp_skip (c _ _ (zF fun _ c => wp_block (zF fun _ r => zH (zG (zC f rfl g) (zD (zA f rfl) (zB (r _ _ (wp_block (loop_m (fun mz_ az_ w' => ∃ (jj : Nat) (dj : Ar), mz_ = (jj + 1) ∧ (Sl az_ 0 v) ∧ (Sl az_ 1 (.int .i64 ((a : Nat) : Int))) ∧ (Sl az_ 2 (.int .i64 ((b : Nat) : Int))) ∧ (Sl az_ 6 (.int .i64 ((i : Nat) : Int))) ∧ (Sl az_ 7 (.int .i64 ((jj : Nat) : Int))) ∧ (dj.size = n) ∧ (a ≤ jj ∧ jj ≤ i) ∧ (insInner ltT a i dk = insInner ltT a jj dj) ∧ (w.grownBy w' v.ownBlock) ∧ (q.heap.size ≤ w'.heap.size) ∧ (Own w' base 57 1 v n (dj.toList.map u64v))) _ f m ⟨i, _, rfl, (zL f rfl o), (zL f rfl p), (zL f rfl l), (zL f rfl g), (zU f rfl).trans (congrArg (Value.int .i64) zx), (by first | assumption | (simp only [Array.size_setIfInBounds, swp_sz, siftDown_size]; assumption)), zx, rfl, hb, (Nat.le_refl _), k⟩ ?_))))))))))))
  rintro _ y x g t ⟨jj, dj, rfl, l, q, u, s, o, hdj, hji, hj, hb, z, p⟩
  have := hb.size
  refine zF fun _ r => zF fun _ x => reg_still mixed zy ?_
  intro z y
  have := y.size
  have p := p.keep0 y
  have hb := grow_step0 hb y
  refine st_step rfl (fun _ y => zG (zC g rfl o) y) (st_step rfl (fun _ y => zG (zC g rfl q) y) ?_)
  by_cases z : ((a : Nat) : Int) < ((jj : Nat) : Int)
  ·
   refine st_step rfl (fun _ y => op_cmp (b := true) (zA g rfl) (zA g rfl) (b_gtr (decide_eq_true z)) y) (st_step rfl (fun _ y => zG (zA g rfl) y) (st_g_true (j := 3) (dj := 19) (b := true) rfl rfl rfl (zA g rfl) (st_step rfl (fun _ y => zG (zC g rfl l) y) (st_g_true (j := 3) (dj := 19) (b := true) rfl rfl rfl (zA g rfl) (st_step rfl (fun _ y => zG (zC g rfl o) y) (st_g_true (j := 3) (dj := 19) (b := true) rfl rfl rfl (zA g rfl) (st_index_rd slt62 (zA g rfl) p.rdw (zA g rfl) zx zx ?_)))))))
   intro E B D C A
   refine st_g_true (j := 3) (dj := 19) (b := true) rfl rfl rfl (zA g rfl) (st_step rfl (fun _ y => zN (v := (Value.int .u64 (dj[jj]!.toNat : Int))) one57 (zA g rfl) (by have := A 0 (.int .u64 (dj[jj]!.toNat : Int)) zz (el_arr (i := jj) zx (by first | omega | (simp only [Array.size_setIfInBounds, swp_sz, siftDown_size]; omega))); simpa using this) y) (st_g_true (j := 3) (dj := 19) (b := true) rfl rfl rfl (zA g rfl) (st_step rfl (fun _ y => zG (zC g rfl l) y) (st_g_true (j := 3) (dj := 19) (b := true) rfl rfl rfl (zA g rfl) (st_step rfl (fun _ y => zG (zC g rfl o) y) (st_g_true (j := 3) (dj := 19) (b := true) rfl rfl rfl (zA g rfl) (st_step rfl (fun _ y => op_sub (zA g rfl) rfl (sub64 zx) y) (st_g_true (j := 3) (dj := 19) (b := true) rfl rfl rfl (zA g rfl) (st_index_rd slt62 (zA g rfl) p.rdw (zA g rfl) zx zx ?_)))))))))
   intro E D C B A
   refine st_g_true (j := 3) (dj := 19) (b := true) rfl rfl rfl (zA g rfl) (st_step rfl (fun _ y => zN (v := (Value.int .u64 (dj[(jj - 1)]!.toNat : Int))) one57 (zA g rfl) (by have := A 0 (.int .u64 (dj[(jj - 1)]!.toNat : Int)) zz (el_arr (i := (jj - 1)) zx (by first | omega | (simp only [Array.size_setIfInBounds, swp_sz, siftDown_size]; omega))); simpa using this) y) (st_g_true (j := 3) (dj := 19) (b := true) rfl rfl rfl (zA g rfl) (st_fn (vs := [(.int .u64 (dj[jj]!.toNat : Int)), (.int .u64 (dj[(jj - 1)]!.toNat : Int))]) ok73 (⟨(zA g rfl), ⟨(zA g rfl), trivial⟩⟩) (Less16_ret dj[jj]! dj[(jj - 1)]! _) (st_step rfl (fun _ y => zc (zA g rfl) (zA g rfl) y) (st_nil (x _ _ (wp_cond_split (zA g rfl) (fun B => ?_) (fun B => ?_))))))))
   ·
    refine wp_skip (r _ _ (zF fun _ r => wp_block (reg_mid (e := 57) (sz := 1) (base := base) (n := n) (v := v) (Φ := phiL [(fun uz _ => uz = v), (fun uz _ => uz = (.int .i64 ((jj : Nat) : Int))), (fun uz _ => uz = v), (fun uz _ => uz = (.int .i64 ((jj : Nat) : Int))), (fun uz _ => uz = (.int .i64 (((jj : Nat) : Int) - 1))), (fun uz _ => uz = v), (fun uz _ => uz = (.int .i64 ((jj : Nat) : Int))), (fun uz _ => uz = (.int .i64 (((jj : Nat) : Int) - 1))), (fun uz _ => ∃ bz oz, uz = ptr bz oz ∧ AtV v (jj - 1) bz oz), (fun uz _ => uz = (.int .u64 (dj[(jj - 1)]!.toNat : Int))), (fun uz _ => uz = v), (fun uz _ => uz = (.int .i64 ((jj : Nat) : Int))), (fun uz _ => ∃ bz oz, uz = ptr bz oz ∧ AtV v jj bz oz), (fun uz _ => uz = (.int .u64 (dj[jj]!.toNat : Int))), (fun uz _ => ∃ bz oz, uz = ptr bz oz ∧ AtV v jj bz oz), (fun _ _ => True), (fun uz _ => ∃ bz oz, uz = ptr bz oz ∧ AtV v (jj - 1) bz oz), (fun _ _ => True)]) [15, 17] [(dj.toList.map u64v), ((dj.setIfInBounds jj dj[(jj - 1)]!).toList.map u64v), (((dj.setIfInBounds jj dj[(jj - 1)]!).setIfInBounds (jj - 1) dj[jj]!).toList.map u64v)] mixed zy zy zy zy g p (StL.get (StL.eq (StL.eq (StL.eq (StL.eq (StL.eq (StL.eq (StL.eq (StL.eq (StL.at (StL.eq (StL.eq (StL.eq (StL.at (StL.eq (StL.at (StL.cons (fun _ _ _ _ h => h) (StL.at (StL.cons (fun _ _ _ _ h => h) (StL.nil _)))))))))))))))))))) (ObRs.get (ObRs.cons ?_ (ObRs.cons ?_ (ObRs.cons ?_ (ObRs.cons ?_ (ObRs.cons ?_ (ObRs.cons ?_ (ObRs.cons ?_ (ObRs.cons ?_ (ObRs.cons ?_ (ObRs.cons ?_ (ObRs.cons ?_ (ObRs.cons ?_ (ObRs.cons ?_ (ObRs.cons ?_ (ObRs.cons ?_ (ObRs.pass rfl (ObRs.cons ?_ (ObRs.pass rfl (ObRs.nil)))))))))))))))))))) (ObWs.get (ObWs.cons ?_ (ObWs.cons ?_ (ObWs.nil)))) ?_)))
    ·
     intro aA wA cA hNA hRA hckA hOA hbsA hdpA
     have A := (hbsA 0 rfl).trans (zL g rfl l)
     clear hbsA hdpA
     refine zG (zC hNA rfl A) ?_
     exact obR_end rfl rfl (grown_refl _ _)
    ·
     intro aA wA cA hNA hRA hckA hOA hbsA hdpA
     have C := (hbsA 7 rfl).trans (zL g rfl o)
     clear hbsA hdpA
     refine zG (zC hNA rfl C) ?_
     exact obR_end rfl rfl (grown_refl _ _)
    ·
     intro aA wA cA hNA hRA hckA hOA hbsA hdpA
     have A := (hbsA 0 rfl).trans (zL g rfl l)
     clear hbsA hdpA
     refine zG (zC hNA rfl A) ?_
     exact obR_end rfl rfl (grown_refl _ _)
    ·
     intro aA wA cA hNA hRA hckA hOA hbsA hdpA
     have C := (hbsA 7 rfl).trans (zL g rfl o)
     clear hbsA hdpA
     refine zG (zC hNA rfl C) ?_
     exact obR_end rfl rfl (grown_refl _ _)
    ·
     intro aA wA cA hNA hRA hckA hOA hbsA hdpA
     have D : Sl aA 36 (.int .i64 ((jj : Nat) : Int)) := hdpA 3 _ 36 zy rfl rfl
     clear hbsA hdpA
     refine op_sub (zC hNA rfl D) rfl (sub64 zx) ?_
     exact obR_end rfl rfl (grown_refl _ _)
    ·
     intro aA wA cA hNA hRA hckA hOA hbsA hdpA
     have A := (hbsA 0 rfl).trans (zL g rfl l)
     clear hbsA hdpA
     refine zG (zC hNA rfl A) ?_
     exact obR_end rfl rfl (grown_refl _ _)
    ·
     intro aA wA cA hNA hRA hckA hOA hbsA hdpA
     have C := (hbsA 7 rfl).trans (zL g rfl o)
     clear hbsA hdpA
     refine zG (zC hNA rfl C) ?_
     exact obR_end rfl rfl (grown_refl _ _)
    ·
     intro aA wA cA hNA hRA hckA hOA hbsA hdpA
     have D : Sl aA 39 (.int .i64 ((jj : Nat) : Int)) := hdpA 6 _ 39 zy rfl rfl
     clear hbsA hdpA
     refine op_sub (zC hNA rfl D) rfl (sub64 zx) ?_
     exact obR_end rfl rfl (grown_refl _ _)
    ·
     intro aA wA cA hNA hRA hckA hOA hbsA hdpA
     have D : Sl aA 38 v := hdpA 5 _ 38 zy rfl rfl
     have E : Sl aA 40 (.int .i64 (((jj : Nat) : Int) - 1)) := hdpA 7 _ 40 zy rfl rfl
     clear hbsA hdpA
     refine op_index_own (i := (jj - 1)) slt62 (zC hNA rfl D) hOA (zC hNA rfl E) zx zx ?_
     intro b_ o_ _ hA_
     exact obR_end rfl ⟨b_, o_, rfl, by simpa using hA_⟩ (grown_refl _ _)
    ·
     intro aA wA cA hNA hRA hckA hOA hbsA hdpA
     obtain ⟨G, F, D, E⟩ := hdpA 8 _ 41 zy rfl rfl
     clear hbsA hdpA
     obtain rfl : cA = 0 := Nat.le_zero.1 (hckA 0 15 rfl zy)
     have hOA : Own wA base 57 1 v n (dj.toList.map u64v) := hOA
     refine zN (v := (Value.int .u64 (dj[(jj - 1)]!.toNat : Int))) one57 (zC hNA rfl D) (by have := hOA.cellAt E 0 _ (el_at (i := (jj - 1)) (by first | omega | (simp only [Array.size_setIfInBounds, swp_sz, siftDown_size]; omega))); simpa using this) ?_
     exact obR_end rfl rfl (grown_refl _ _)
    ·
     intro aA wA cA hNA hRA hckA hOA hbsA hdpA
     have A := (hbsA 0 rfl).trans (zL g rfl l)
     clear hbsA hdpA
     refine zG (zC hNA rfl A) ?_
     exact obR_end rfl rfl (grown_refl _ _)
    ·
     intro aA wA cA hNA hRA hckA hOA hbsA hdpA
     have C := (hbsA 7 rfl).trans (zL g rfl o)
     clear hbsA hdpA
     refine zG (zC hNA rfl C) ?_
     exact obR_end rfl rfl (grown_refl _ _)
    ·
     intro aA wA cA hNA hRA hckA hOA hbsA hdpA
     have A : Sl aA 43 v := hdpA 10 _ 43 zy rfl rfl
     have C : Sl aA 44 (.int .i64 ((jj : Nat) : Int)) := hdpA 11 _ 44 zy rfl rfl
     clear hbsA hdpA
     refine op_index_own (i := jj) slt62 (zC hNA rfl A) hOA (zC hNA rfl C) zx zx ?_
     intro b_ o_ _ hA_
     exact obR_end rfl ⟨b_, o_, rfl, by simpa using hA_⟩ (grown_refl _ _)
    ·
     intro aA wA cA hNA hRA hckA hOA hbsA hdpA
     obtain ⟨E, D, A, C⟩ := hdpA 12 _ 45 zy rfl rfl
     clear hbsA hdpA
     obtain rfl : cA = 0 := Nat.le_zero.1 (hckA 0 15 rfl zy)
     have hOA : Own wA base 57 1 v n (dj.toList.map u64v) := hOA
     refine zN (v := (Value.int .u64 (dj[jj]!.toNat : Int))) one57 (zC hNA rfl A) (by have := hOA.cellAt C 0 _ (el_at (i := jj) (by first | omega | (simp only [Array.size_setIfInBounds, swp_sz, siftDown_size]; omega))); simpa using this) ?_
     exact obR_end rfl rfl (grown_refl _ _)
    ·
     intro aA wA cA hNA hRA hckA hOA hbsA hdpA
     have A : Sl aA 33 v := hdpA 0 _ 33 zy rfl rfl
     have C : Sl aA 34 (.int .i64 ((jj : Nat) : Int)) := hdpA 1 _ 34 zy rfl rfl
     clear hbsA hdpA
     refine op_index_own (i := jj) slt62 (zC hNA rfl A) hOA (zC hNA rfl C) zx zx ?_
     intro b_ o_ _ hA_
     exact obR_end rfl ⟨b_, o_, rfl, by simpa using hA_⟩ (grown_refl _ _)
    ·
     intro aA wA cA hNA hRA hckA hOA hbsA hdpA
     have A : Sl aA 35 v := hdpA 2 _ 35 zy rfl rfl
     have C : Sl aA 37 (.int .i64 (((jj : Nat) : Int) - 1)) := hdpA 4 _ 37 zy rfl rfl
     clear hbsA hdpA
     refine op_index_own (i := (jj - 1)) slt62 (zC hNA rfl A) hOA (zC hNA rfl C) zx zx ?_
     intro b_ o_ _ hA_
     exact obR_end rfl ⟨b_, o_, rfl, by simpa using hA_⟩ (grown_refl _ _)
    ·
     intro o_ ho_; obtain rfl := zE ho_; intro aA wA hNA hRA hbsA hdpA hOA
     obtain ⟨D, E, A, C⟩ := hdpA 14 _ 47 zy rfl rfl
     have D : Sl aA 42 (.int .u64 (dj[(jj - 1)]!.toNat : Int)) := hdpA 9 _ 42 zy rfl rfl
     clear hbsA hdpA
     have hOA : Own wA base 57 1 v n (dj.toList.map u64v) := hOA
     refine op_store_own (vs := [(.int .u64 (dj[(jj - 1)]!.toNat : Int))]) size57 (zC hNA rfl A) (zC hNA rfl D) rfl rfl rfl hOA C (by have := hOA.1; simp at this ⊢; omega) ?_
     intro w_ hO_ E_
     exact obW_end rfl (hO_.cast rfl (set_arr (by first | omega | (simp only [Array.size_setIfInBounds, swp_sz, siftDown_size]; omega)))) E_
    ·
     intro o_ ho_; obtain rfl := zE ho_; intro aA wA hNA hRA hbsA hdpA hOA
     obtain ⟨D, E, C, A⟩ := hdpA 16 _ 48 zy rfl rfl
     have D : Sl aA 46 (.int .u64 (dj[jj]!.toNat : Int)) := hdpA 13 _ 46 zy rfl rfl
     clear hbsA hdpA
     have hOA : Own wA base 57 1 v n ((dj.setIfInBounds jj dj[(jj - 1)]!).toList.map u64v) := hOA
     refine op_store_own (vs := [(.int .u64 (dj[jj]!.toNat : Int))]) size57 (zC hNA rfl C) (zC hNA rfl D) rfl rfl rfl hOA A (by have := hOA.1; simp at this ⊢; omega) ?_
     intro w_ hO_ E_
     exact obW_end rfl (hO_.cast rfl (set_arr (by first | omega | (simp only [Array.size_setIfInBounds, swp_sz, siftDown_size]; omega)))) E_
    intro I G A E C H D F
    have E := E.trans t
    have I := (C 0 rfl).trans (zL g rfl l)
    have J := (C 1 rfl).trans (zL g rfl q)
    have K := (C 2 rfl).trans (zL g rfl u)
    have L := (C 6 rfl).trans (zL g rfl s)
    have M := (C 7 rfl).trans (zL g rfl o)
    clear C H
    have D : Own G base 57 1 v n (((dj.setIfInBounds jj dj[(jj - 1)]!).setIfInBounds (jj - 1) dj[jj]!).toList.map u64v) := D
    have := F.size
    have hb := grow_stepX hb F rfl
    refine r _ _ (zH (zG (zC A rfl M) (op_sub (zA A rfl) rfl (sub64 zx) (zD (zA A rfl) (zB ?_)))))
    -- round 12T 18T 30T
    exact zg _ A E ⟨(jj - 1), _, rfl, (zL A rfl I), (zL A rfl J), (zL A rfl K), (zL A rfl L), (zU A rfl).trans (congrArg (Value.int .i64) zx), (by first | assumption | (simp only [Array.size_setIfInBounds, swp_sz, siftDown_size]; assumption)), zx, (hj.trans (insInner_go zx B)), hb, zx, D⟩ zx
   refine wp_exit (then_exit (then_exit (blk_hit (c _ _ (zH (zG (zC g rfl s) (op_add (zA g rfl) rfl (add64 zx) (zD (zA g rfl) (zB ?_)))))))))
   -- round 12T 18T 30F
   exact zg _ g t ⟨i + 1, _, rfl, (zL g rfl l), (zL g rfl q), (zL g rfl u), (zU g rfl).trans (congrArg (Value.int .i64) zx), (by first | assumption | (simp only [Array.size_setIfInBounds, swp_sz, siftDown_size]; assumption)), zx, (ho.trans ((insOuter_go zx).trans (congrArg (insOuter ltT a b (i + 1)) (hj.trans (insInner_stop (.inr B)))))), hb, zx, p⟩ zx
  refine st_step rfl (fun _ y => op_cmp (b := false) (zA g rfl) (zA g rfl) (b_gtr (decide_eq_false z)) y) (st_step rfl (fun _ y => zG (zA g rfl) y) (st_g_false (j := 3) (dj := 19) (b := true) rfl rfl rfl (zA g rfl) rfl rfl (st_g_false (j := 3) (dj := 19) (b := true) rfl rfl rfl (zA g rfl) rfl rfl (st_g_false (j := 3) (dj := 19) (b := true) rfl rfl rfl (zA g rfl) rfl rfl (st_g_false (j := 3) (dj := 19) (b := true) rfl rfl rfl (zA g rfl) rfl rfl (st_g_false (j := 3) (dj := 19) (b := true) rfl rfl rfl (zA g rfl) rfl rfl (st_g_false (j := 3) (dj := 19) (b := true) rfl rfl rfl (zA g rfl) rfl rfl (st_g_false (j := 3) (dj := 19) (b := true) rfl rfl rfl (zA g rfl) rfl rfl (st_g_false (j := 3) (dj := 19) (b := true) rfl rfl rfl (zA g rfl) rfl rfl ?_)))))))))
  refine st_g_false (j := 3) (dj := 19) (b := true) rfl rfl rfl (zA g rfl) rfl rfl (st_g_false (j := 3) (dj := 19) (b := true) rfl rfl rfl (zA g rfl) rfl rfl (st_step rfl (fun _ y => zd (zA g rfl) rfl y) (st_nil (x _ _ (wp_cond_false (zA g rfl) (wp_exit (then_exit (then_exit (blk_hit (c _ _ (zH (zG (zC g rfl s) (op_add (zA g rfl) rfl (add64 zx) (zD (zA g rfl) (zB ?_)))))))))))))))
  -- round 12T 18F
  exact zg _ g t ⟨i + 1, _, rfl, (zL g rfl l), (zL g rfl q), (zL g rfl u), (zU g rfl).trans (congrArg (Value.int .i64) zx), (by first | assumption | (simp only [Array.size_setIfInBounds, swp_sz, siftDown_size]; assumption)), zx, (ho.trans ((insOuter_go zx).trans (congrArg (insOuter ltT a b (i + 1)) (hj.trans (insInner_stop (.inl zx)))))), hb, zx, p⟩ zx
 refine zB (r _ _ (wp_cond_false (zA f rfl) (wp_exit (then_exit (then_exit (blk_hit (end_ret (ret0 rfl m  ⟨_, rfl, ?_⟩))))))))
 exact ⟨hb, rfl, k.cast rfl (by rw [show insertionSort ltT d a b = insOuter ltT a b (a + 1) d from rfl, ho, insOuter_stop zx])⟩
open Go.Sort (insertionSort insOuter insInner swp siftDown heapSort heapBuild heapPop scanUp scanDown partition partLoop partitionEqual partEqLoop scanSorted partialIns bitsLen partialInsertionSort shiftDown shiftUp SortedIn reverseRange reverseLoop fixDown fixUp)
theorem len64W_ret (n : Nat) (w : World) (hn : n < 18446744073709551616) : Ret Try.prog 77 #[(.int .u64 ((n : Nat) : Int))] w (fun v' w' => Below w.heap.size w w' ∧ v' = .int .i64 (bitsLen n : Int)) := by
 have hb := Below.refl w.heap.size w
 refine enter (N := 25) Try.func77 rfl rfl (by simp) fun a hN hd hA => ?_
 have c : a.tmps.getD 0 undef = (.int .u64 ((n : Nat) : Int)) := hA 0 (by simp)
 clear hA
 refine zF fun _ a => zH (zD rfl (zB (a _ _ (seq_join1 (N := 25) (fun az_ w' => ∃ (d e : Nat), (Sl az_ 0 (.int .u64 ((d : Nat) : Int))) ∧ (Sl az_ 2 (.int .i64 ((e : Nat) : Int))) ∧ (bitsLen n = e + bitsLen d ∧ d < 4294967296 ∧ e ≤ 32) ∧ (Below w.heap.size w w') ∧ (w.heap.size ≤ w'.heap.size)) (fun f => ?_) ?_))))
 ·
  refine zF fun _ a => zF fun _ g => zH (zG (zC hN rfl c) (op_geq (zA hN rfl) rfl (fun h => ?_) (fun h => ?_)))
  ·
   refine zB ?_
   refine g _ _ (wp_cond_true (zA hN rfl) (zF fun _ g => zH (zG (zC hN rfl c) (op_shr (r := ((n / 4294967296 : Nat) : Int)) (zA hN rfl) rfl zz (shr_nat (j := 32) zx zz) (zD (zA hN rfl) (zB (g _ _ (zH (zD rfl (zB (a _ _ ?_)))))))))))
   exact f _ _ _ hN hd ⟨(n / 4294967296), (0 + 32), (zU hN rfl).trans (congrArg (Value.int .u64) zx), (zU hN rfl).trans (congrArg (Value.int .i64) zx), (by have hz := bits_32 (n := n) zx; omega), hb, zx⟩
  refine zB (g _ _ (wp_cond_false (zA hN rfl) (wp_skip (a _ _ ?_))))
  exact f _ _ _ hN hd ⟨n, 0, (zL hN rfl c).trans (congrArg (Value.int .u64) zx), (zU hN rfl).trans (congrArg (Value.int .i64) zx), zx, hb, zx⟩
 rintro m l c k ⟨d, e, f, h, o, hb, p⟩
 have := hb.size
 refine seq_join1 (N := 25) (fun az_ w' => ∃ (m o : Nat), (Sl az_ 0 (.int .u64 ((m : Nat) : Int))) ∧ (Sl az_ 2 (.int .i64 ((o : Nat) : Int))) ∧ (bitsLen n = o + bitsLen m ∧ m < 65536 ∧ o ≤ 48) ∧ (Below w.heap.size w w') ∧ (l.heap.size ≤ w'.heap.size)) (fun p => ?_) ?_
 ·
  refine zF fun _ a => zF fun _ g => zH (zG (zC c rfl f) (op_geq (zA c rfl) rfl (fun l => ?_) (fun l => ?_)))
  ·
   refine zB (g _ _ (wp_cond_true (zA c rfl) (zF fun _ g => zH ?_)))
   refine zG (zC c rfl f) (op_shr (r := ((d / 65536 : Nat) : Int)) (zA c rfl) rfl zz (shr_nat (j := 16) zx zz) (zD (zA c rfl) (zB (g _ _ (zH (zG (zC c rfl h) (op_add (zA c rfl) rfl (add64 zx) (zD (zA c rfl) (zB (a _ _ ?_))))))))))
   exact p _ _ _ c k ⟨(d / 65536), (e + 16), (zU c rfl).trans (congrArg (Value.int .u64) zx), (zU c rfl).trans (congrArg (Value.int .i64) zx), (by have hz := bits_16 (n := d) zx; omega), hb, zx⟩
  refine zB (g _ _ (wp_cond_false (zA c rfl) (wp_skip (a _ _ ?_))))
  exact p _ _ _ c k ⟨d, e, (zL c rfl f).trans (congrArg (Value.int .u64) zx), (zL c rfl h).trans (congrArg (Value.int .i64) zx), zx, hb, zx⟩
 rintro l h c f ⟨m, o, d, e, k, hb, p⟩
 have := hb.size
 refine seq_join1 (N := 25) (fun az_ w' => ∃ (k l : Nat), (Sl az_ 0 (.int .u64 ((k : Nat) : Int))) ∧ (Sl az_ 2 (.int .i64 ((l : Nat) : Int))) ∧ (bitsLen n = l + bitsLen k ∧ k < 256 ∧ l ≤ 56) ∧ (Below w.heap.size w w') ∧ (h.heap.size ≤ w'.heap.size)) (fun p => ?_) ?_
 ·
  refine zF fun _ a => zF fun _ g => zH (zG (zC c rfl d) (op_geq (zA c rfl) rfl (fun h => ?_) (fun h => ?_)))
  ·
   refine zB (g _ _ (wp_cond_true (zA c rfl) (zF fun _ g => zH ?_)))
   refine zG (zC c rfl d) (op_shr (r := ((m / 256 : Nat) : Int)) (zA c rfl) rfl zz (shr_nat (j := 8) zx zz) (zD (zA c rfl) (zB (g _ _ (zH (zG (zC c rfl e) (op_add (zA c rfl) rfl (add64 zx) (zD (zA c rfl) (zB (a _ _ ?_))))))))))
   exact p _ _ _ c f ⟨(m / 256), (o + 8), (zU c rfl).trans (congrArg (Value.int .u64) zx), (zU c rfl).trans (congrArg (Value.int .i64) zx), (by have hz := bits_8 (n := m) zx; omega), hb, zx⟩
  refine zB (g _ _ (wp_cond_false (zA c rfl) (wp_skip (a _ _ ?_))))
  exact p _ _ _ c f ⟨m, o, (zL c rfl d).trans (congrArg (Value.int .u64) zx), (zL c rfl e).trans (congrArg (Value.int .i64) zx), zx, hb, zx⟩
 rintro m h c e ⟨k, l, d, f, o, hb, g⟩
 have := hb.size
 refine zF fun _ a => zH (zG (zC c rfl f) (zG (zC c rfl d) (op_conv (r := ((k : Nat) : Int)) (zA c rfl) us57 Try.underlying5 (wrap_u8 zx) ?_)))
 have d := tab8_sz
 have d := tab8_len (z := k) zx
 have d : k < tab8.length := by omega
 have f : bitsLen k ≤ 8 := (Go.Sort.bitsLen_le_iff k 8).2 zx
 refine op_index_str (b := (tab8.getD k 0)) Try.underlying9 rfl (zA c rfl) (Int.natCast_nonneg _) (el_str (i := k) rfl d) (op_conv (r := ((tab8.getD k 0).toNat : Int)) (zA c rfl) us5 Try.underlying3 (wrap_i64 (by have := ((tab8.getD k 0)).toNat_lt; omega)) (op_add (zA c rfl) (zA c rfl) (add64 zx) (zD (zA c rfl) (zB (a _ _ (wp_ret (ret1 rfl e (zA c rfl) ⟨_, rfl, ?_⟩)))))))
 exact ⟨hb, congrArg (Value.int .i64) zx⟩

theorem lenW_ret (n : Nat) (w : World) (hn : n < 18446744073709551616) : Ret Try.prog 64 #[(.int .u64 ((n : Nat) : Int))] w (fun v' w' => Below w.heap.size w w' ∧ v' = .int .i64 (bitsLen n : Int)) := by
 have hb := Below.refl w.heap.size w
 refine enter (N := 8) Try.func64 rfl rfl (by simp) fun a hN hd hA => ?_
 have b : a.tmps.getD 0 undef = (.int .u64 ((n : Nat) : Int)) := hA 0 (by simp)
 clear hA
 refine zF fun _ a => zH (zD rfl ?_)
 refine zB (a _ _ (zF fun _ a => wp_cond_false rfl (wp_skip (a _ _ (zF fun _ a => zH (zG (zC hN rfl b) (zj ok77 (len64W_ret n _ zx) ⟨(zA hN rfl), trivial⟩ ?_)))))))
 rintro _ c ⟨b, rfl⟩
 have b := zQ b
 obtain ⟨hb, _⟩ := yE hb b
 refine zD (zA hN rfl) (zB (a _ _ (wp_ret (ret1 rfl hd (zA hN rfl) ⟨_, rfl, ?_⟩))))
 exact ⟨hb, rfl⟩

end Go.Proofs.Ytdhpalioifjfbaa

namespace Go.Proofs.Ytdhpalioifjfbaa
open Go.Gx Go.Sort Go.RowKit
def Inv (a b x y : Nat) (d0 d : Ar) : Prop := a ≤ x ∧ x ≤ y ∧ y ≤ b ∧ b ≤ d0.size ∧ PI a b d0 d ∧ Go.Sort.Below ltT x y d ∧ Left a b x y d
theorem Inv.start {a b : Nat} {d : Ar} (h : Go.Sort.Below ltT a b d) (hab : a ≤ b) (hb : b ≤ d.size) : Inv a b a b d d := ⟨Nat.le_refl _, hab, Nat.le_refl _, hb, PI.rfl' _ _ _, h, Left.start _ _ _⟩
theorem Inv.rng {a b x y : Nat} {d0 d : Ar} (h : Inv a b x y d0 d) : a ≤ x ∧ x ≤ y ∧ y ≤ b := ⟨h.1, h.2.1, h.2.2.1⟩
theorem Inv.sz {a b x y : Nat} {d0 d : Ar} (h : Inv a b x y d0 d) : d.size = d0.size := h.2.2.2.2.1.sz
theorem Inv.hi {a b x y : Nat} {d0 d : Ar} (h : Inv a b x y d0 d) : y ≤ d.size := by have := h.sz; have := h.2.2.1; have := h.2.2.2.1; omega
theorem Inv.below {a b x y : Nat} {d0 d : Ar} (h : Inv a b x y d0 d) : Go.Sort.Below ltT x y d := h.2.2.2.2.2.1
theorem Inv.perm {a b x y : Nat} {d0 d d1 : Ar} (h : Inv a b x y d0 d) (hp : PI x y d d1) : Inv a b x y d0 d1 := by
  have hi := h.hi; have hs := h.sz
  obtain ⟨h1, h2, h3, h4, h5, h6, h7⟩ := h
  exact ⟨h1, h2, h3, h4, h5.tr (hp.mono h1 h3 (by omega)), hp.below hi h6, h7.perm hp⟩
theorem Inv.done {a b x y : Nat} {d0 d d1 : Ar} (h : Inv a b x y d0 d) (hp : PI x y d d1) (hs : SortedIn ltT x y d1) : PI a b d0 d1 ∧ SortedIn ltT a b d1 :=
  ⟨(h.perm hp).2.2.2.2.1, h.2.2.2.2.2.2 d1 hp hs⟩
theorem Inv.equal {a b x y pv : Nat} {d0 d : Ar} (h : Inv a b x y d0 d) (hx : x ≤ pv) (hy : pv < y) (h0 : 0 < x) (hl : ltT d[x - 1]! d[pv]! = false) :
    x < (partitionEqual ltT d x y pv).1 ∧ Inv a b (partitionEqual ltT d x y pv).1 y d0 (partitionEqual ltT d x y pv).2 := by
  have hi := h.hi; have hs := h.sz
  obtain ⟨h1, h2, h3, h4, h5, h6, h7⟩ := h
  have hall : ∀ i, x ≤ i → i < y → ltT d[i]! d[pv]! = false := fun i hi1 hi2 => by
    have g := (h6.resolve_left (by omega)) i hi1 hi2
    simp [ltT] at *; omega
  obtain ⟨g1, g2, g3, g4, g5⟩ := partitionEqual_holds ltT swoT d x y pv hx hy hi hall
  have g3 : PI x y d (partitionEqual ltT d x y pv).2 := g3
  have hall' := PI.all g3 hi (fun z => ltT z d[pv]! = false) hall
  generalize partitionEqual ltT d x y pv = q at *
  refine ⟨g1, by omega, g2, h3, h4, h5.tr (g3.mono h1 h3 (by omega)), .inr fun i hi1 hi2 => ?_, Left.equal h7 g3 (by omega) g2 hi g4 hall' g5⟩
  have k1 := g5 i hi1 hi2; have k2 := g4 (q.1 - 1) (by omega) (by omega)
  simp [ltT] at *; omega
theorem Inv.part {a b x y pv : Nat} {d0 d : Ar} (h : Inv a b x y d0 d) (hx : x ≤ pv) (hy : pv < y) :
    x ≤ (partition ltT d x y pv).1 ∧ (partition ltT d x y pv).1 < y ∧ (partition ltT d x y pv).2.2.size = d.size ∧ Go.Sort.Below ltT x (partition ltT d x y pv).1 (partition ltT d x y pv).2.2 ∧ Go.Sort.Below ltT ((partition ltT d x y pv).1 + 1) y (partition ltT d x y pv).2.2 ∧
    (∀ d2, PI x (partition ltT d x y pv).1 (partition ltT d x y pv).2.2 d2 → SortedIn ltT x (partition ltT d x y pv).1 d2 → Inv a b ((partition ltT d x y pv).1 + 1) y d0 d2) ∧
    (∀ d2, PI ((partition ltT d x y pv).1 + 1) y (partition ltT d x y pv).2.2 d2 → SortedIn ltT ((partition ltT d x y pv).1 + 1) y d2 → Inv a b x (partition ltT d x y pv).1 d0 d2) := by
  have hi := h.hi; have hs := h.sz
  obtain ⟨g1, g2, g3, g4, g5⟩ := partition_holds ltT swoT d x y pv hx hy hi
  have g3 : PI x y d (partition ltT d x y pv).2.2 := g3
  have hp := h.perm g3
  obtain ⟨h1, h2, h3, h4, h5, h6, h7⟩ := h
  generalize partition ltT d x y pv = q at *
  have hsq := g3.sz
  refine ⟨g1, g2, hsq, ?_, ?_, ?_, ?_⟩
  · rcases hp.below with hB | hB
    · exact .inl hB
    · exact .inr fun i hi1 hi2 => hB i hi1 (by omega)
  · exact .inr fun i hi1 hi2 => by rw [Nat.add_sub_cancel]; exact g5 i (by omega) hi2
  · intro d2 hq hso
    refine ⟨by omega, by omega, h3, h4, hp.2.2.2.2.1.tr (hq.mono h1 (by omega) (by omega)), ?_, Left.right h7 g3 g1 g2 hi g4 g5 hq hso⟩
    refine .inr fun i hi1 hi2 => ?_
    have e0 : d2[q.1]! = q.2.2[q.1]! := hq.2.1 q.1 (.inr (Nat.le_refl _))
    have e1 : d2[i]! = q.2.2[i]! := hq.2.1 i (.inr (by omega))
    rw [Nat.add_sub_cancel, e0, e1]; exact g5 i (by omega) hi2
  · intro d2 hq hso
    refine ⟨h1, g1, by omega, h4, hp.2.2.2.2.1.tr (hq.mono (by omega) h3 (by omega)), ?_, Left.left h7 g3 g1 g2 hi g4 g5 hq hso⟩
    rcases hp.below with hB | hB
    · exact .inl hB
    · by_cases hx0 : x = 0
      · exact .inl hx0
      · refine .inr fun i hi1 hi2 => ?_
        have e0 : d2[x - 1]! = q.2.2[x - 1]! := hq.2.1 (x - 1) (.inl (by omega))
        have e1 : d2[i]! = q.2.2[i]! := hq.2.1 i (.inl (by omega))
        rw [e0, e1]; exact hB i hi1 (by omega)
theorem Inv.lt {a b x y : Nat} {d0 d : Ar} (h : Inv a b x y d0 d) : PI a b d0 d := h.2.2.2.2.1
theorem Inv.ins {a b x y : Nat} {d0 d : Ar} (h : Inv a b x y d0 d) : PI a b d0 (insertionSort ltT d x y) ∧ SortedIn ltT a b (insertionSort ltT d x y) :=
  have g := insertionSort_holds swoT d x y h.2.1 h.hi
  h.done g.1 g.2
theorem Inv.heap {a b x y : Nat} {d0 d : Ar} (h : Inv a b x y d0 d) : PI a b d0 (heapSort ltT d x y) ∧ SortedIn ltT a b (heapSort ltT d x y) :=
  have g := heapSort_holds swoT d x y h.2.1 h.hi
  h.done g.1 g.2
end Go.Proofs.Ytdhpalioifjfbaa

namespace Go.Proofs.Ytdhpalioifjfbaa
open Go.Gx Go.RowKit
attribute [local irreducible] wpList wpStill Code.wp Calls
open Go.Sort (insertionSort insOuter insInner swp siftDown heapSort heapBuild heapPop scanUp scanDown partition partLoop partitionEqual partEqLoop scanSorted partialIns bitsLen partialInsertionSort shiftDown shiftUp SortedIn reverseRange reverseLoop fixDown fixUp)
theorem pdqS_ret (d : Ar) (v : Value) (n base a b lim : Nat) (w : World) (hd : d.size = n) (hn : n ≤ 12) (hab : a ≤ b) (hbn : b ≤ n) (hB : Go.Sort.Below ltT a b d) (O : Own w base 57 1 v n (d.toList.map u64v)) : Ret Try.prog 63 #[v, (.int .i64 ((a : Nat) : Int)), (.int .i64 ((b : Nat) : Int)), (.int .i64 ((lim : Nat) : Int))] w (fun v' w' => w.grownBy w' v.ownBlock ∧ v' = .tuple #[] ∧ ∃ d', PI a b d d' ∧ SortedIn ltT a b d' ∧ Own w' base 57 1 v n (d'.toList.map u64v)) := by
 have hb := grown_refl w v.ownBlock
 refine enter (N := 134) Try.func63 rfl rfl (by simp) fun c hN hd hA => ?_
 have e : c.tmps.getD 0 undef = v := hA 0 (by simp)
 have f : c.tmps.getD 1 undef = (.int .i64 ((a : Nat) : Int)) := hA 1 (by simp)
 have g : c.tmps.getD 2 undef = (.int .i64 ((b : Nat) : Int)) := hA 2 (by simp)
 have h : c.tmps.getD 3 undef = (.int .i64 ((lim : Nat) : Int)) := hA 3 (by simp)
 clear hA
 refine zF fun _ c => zH (zD rfl (zB (c _ _ (zF fun _ c => zH (zD rfl (zB (c _ _ (wp_block (loop_m (fun mz_ az_ w' => ∃ (x y lm : Nat) (wb wp : Bool) (dk : Ar), mz_ = (y - x) ∧ (Sl az_ 0 v) ∧ (Sl az_ 1 (.int .i64 ((x : Nat) : Int))) ∧ (Sl az_ 2 (.int .i64 ((y : Nat) : Int))) ∧ (Sl az_ 3 (.int .i64 ((lm : Nat) : Int))) ∧ (Sl az_ 8 (.bool wb)) ∧ (Sl az_ 9 (.bool wp)) ∧ (dk.size = n) ∧ (Inv a b x y d dk) ∧ (w.grownBy w' v.ownBlock) ∧ (w.heap.size ≤ w'.heap.size) ∧ (Own w' base 57 1 v n (dk.toList.map u64v))) _ hN hd ⟨a, b, lim, true, true, _, rfl, (zL hN rfl e), (zL hN rfl f).trans (congrArg (Value.int .i64) zx), (zL hN rfl g).trans (congrArg (Value.int .i64) zx), (zL hN rfl h).trans (congrArg (Value.int .i64) zx), (zU hN rfl), (zU hN rfl), (by first | assumption | (simp only [Array.size_setIfInBounds, swp_sz, siftDown_size]; assumption)), (Inv.start hB hab zx), hb, (Nat.le_refl _), O⟩ ?_)))))))))
 rintro _ l o e k ⟨x, y, lm, wb, wp, dk, rfl, h, f, g, s, p, m, hdk, hinv, hb, q, j⟩
 have := hb.size
 refine wp_block (zF fun _ c => zH ?_)
 have hrg := hinv.rng
 have hzk := hinv.sz
 refine zG (zC e rfl g) ?_
 refine zG (zC e rfl f) (op_sub (r := (((y - x) : Nat) : Int)) (zA e rfl) (zA e rfl) (by rw [IntKind.wrap_i64]; omega) (zD (zA e rfl) (zB (c _ _ (zF fun _ c => zF fun _ l => zH (zG (zA e rfl) (op_cmp (b := true) (zA e rfl) rfl (b_leq (decide_eq_true zx)) (zB ?_))))))))
 refine l _ _ (wp_cond_true (zA e rfl) (zF fun _ l => zH (zG (zC e rfl h) (zG (zC e rfl f) (zG (zC e rfl g) (zj ok67 (insSort_ret dk _ _ _ x y _ (by first | assumption | (simp only [Array.size_setIfInBounds, swp_sz, siftDown_size]; assumption)) zx j zx zx) ⟨(zA e rfl), ⟨(zA e rfl), ⟨(zA e rfl), trivial⟩⟩⟩ ?_))))))
 rintro _ f ⟨c, rfl, e⟩
 have := c.size
 have hb := grow_stepX hb c rfl
 refine zB (l _ _ (wp_ret (zO (zb (zO (zb ( (ret0 rfl k  ⟨_, rfl, ?_⟩))))))))
 exact ⟨hb, rfl, _, hinv.ins.1, hinv.ins.2, e⟩

theorem sortS_ret (d : Ar) (v : Value) (n base : Nat) (z0 : Nat) (w : World) (hd : d.size = n) (hn : n ≤ 4000000000000000000) (O : Own w base 57 1 v n (d.toList.map u64v)) (hn12 : n ≤ 12) : Ret Try.prog 57 #[v] w (fun v' w' => w.grownBy w' v.ownBlock ∧ v' = .tuple #[] ∧ ∃ d', PI 0 n d d' ∧ SortedIn ltT 0 n d' ∧ Own w' base 57 1 v n (d'.toList.map u64v)) := by
 have hb := grown_refl w v.ownBlock
 refine enter (N := 11) Try.func57 rfl rfl (by simp) fun a hN hd hA => ?_
 have b : a.tmps.getD 0 undef = v := hA 0 (by simp)
 clear hA
 refine zF fun _ a => ?_
 refine zH (zG (zC hN rfl b) (op_len_rd Try.underlying62 (zA hN rfl) O.rdw (zD (zA hN rfl) (zB (a _ _ (zH (zG (zC hN rfl b) (zG (zA hN rfl) (zG (zA hN rfl) (op_conv (r := ((n : Nat) : Int)) (zA hN rfl) us3 Try.underlying90 (wrap_u64 zx) ?_))))))))))
 have hbl : bitsLen n ≤ 62 := (Go.Sort.bitsLen_le_iff n 62).2 zx
 refine zj ok64 (lenW_ret n _ zx) ⟨(zA hN rfl), trivial⟩ ?_
 rintro _ b ⟨a, rfl⟩
 have a := zQ a
 have := a.size
 have O := O.keep0 a
 have hb := grow_step0 hb a
 refine zj ok63 (pdqS_ret d _ _ _ 0 n ((bitsLen n)) _ (by first | assumption | (simp only [Array.size_setIfInBounds, swp_sz, siftDown_size]; assumption)) zx zx zx (.inl rfl) O) ⟨(zA hN rfl), ⟨rfl, ⟨(zA hN rfl), ⟨(zA hN rfl), trivial⟩⟩⟩⟩ ?_
 rintro _ g ⟨a, rfl, f, e, b, c⟩
 have := a.size
 have hb := grow_stepX hb a rfl
 refine zB (end_ret (ret0 rfl hd  ⟨_, rfl, ?_⟩))
 exact ⟨hb, rfl, _, e, b, c⟩

end Go.Proofs.Ytdhpalioifjfbaa

namespace Go.Proofs.Ytdhpalioifjfbaa
open Go.Gx Go.RowKit Go.Maps Go.Sort Go.Shelf Go.Proofs
abbrev encU : Int → Value := Value.int .u64
theorem encU_inj {x y : Int} (h : encU x = encU y) : x = y := by simpa using h
theorem keyOf_u64 {P : Program} {k : TypeId} (hk : P.underlying k = some (.int .u64)) {key : Value} {kl : Lit} (h : keyOf P k key = some kl) : ∃ x : Int, key = encU x ∧ kl = .int .u64 x ∧ (Lit.int .u64 x).wf = true := by
  cases key <;> simp [keyOf, hk, mapKey] at h
  rename_i q a
  obtain ⟨⟨rfl, hw⟩, rfl⟩ := h
  exact ⟨a, rfl, rfl, hw⟩
def CollU {H : Type} (D0 : DataW H) (left : Lit → Bool) (ss : List Int) : Prop := ss.Nodup ∧ ∀ x, x ∈ ss ↔ (has D0 (.int .u64 x) = true ∧ left (.int .u64 x) = false)
section
variable {H : Type} {D0 : DataW H} {left : Lit → Bool} {ss : List Int}
theorem CollU.start (D0 : DataW H) : CollU D0 (has D0) [] := ⟨List.nodup_nil, fun x => by cases has D0 (.int .u64 x) <;> simp⟩
theorem CollU.step (h : CollU D0 left ss) {x : Int} {y : DataW H} (hlk : left (.int .u64 x) = true) (hat : ∀ zd, D0.atKey (.int .u64 x) zd = y) : CollU D0 (fun z => left z && !z.sameKey (.int .u64 x)) (ss ++ [x]) := by
  have hhas : has D0 (.int .u64 x) = true := has_true_of_atKey hat
  have hnew : x ∉ ss := fun hx => by have := ((h.2 x).1 hx).2; rw [hlk] at this; cases this
  refine ⟨List.nodup_append.2 ⟨h.1, by simp, fun a ha b hb => by simp at hb; subst hb; exact fun e => hnew (e ▸ ha)⟩, fun y => ?_⟩
  by_cases hy : y = x
  · subst hy; simp [hhas, Lit.sameKey]
  · simp [h.2 y, hy, Lit.sameKey]
theorem CollU.perm {P : Program} {k : TypeId} {R : Value → Option (DataW H × List MemPlace)} {w : World} {b n : Nat} (h : CollU D0 left ss) (hown : w.ownsMap P k R b n D0) (K : Keyed P k) (hk : P.underlying k = some (.int .u64)) (hl : ∀ kl, left kl = false) : ss.Perm (intKeys D0) := by
  obtain ⟨es, hD, hpw, _⟩ := hown.entries K
  obtain ⟨es', hD', hko⟩ := hown.keysOf
  obtain rfl : es = es' := by rw [hD] at hD'; simpa using hD'
  subst hD
  have hkx : ∀ p ∈ es, ∃ x, p.1 = Lit.int .u64 x := fun p hp => by obtain ⟨v, hv⟩ := hko p hp; obtain ⟨x, _, hx, _⟩ := keyOf_u64 hk hv; exact ⟨x, hx⟩
  refine (List.perm_ext_iff_of_nodup h.1 ?_).2 fun x => ?_
  · show (es.map fun (p : Lit × DataW H) => Go.intOf p.1).Nodup
    refine List.pairwise_map.2 (hpw.imp_of_mem fun {p q} hp' hq' hne e => hne ?_)
    obtain ⟨a, ha⟩ := hkx p hp'
    obtain ⟨c, hc⟩ := hkx q hq'
    rw [ha, hc] at e ⊢
    exact congrArg _ e
  · rw [h.2 x, hl, has_eq, List.any_eq_true]
    show _ ↔ x ∈ es.map fun (p : Lit × DataW H) => Go.intOf p.1
    rw [List.mem_map]
    constructor
    · rintro ⟨⟨p, hp', hs⟩, _⟩
      obtain ⟨a, ha⟩ := hkx p hp'
      rw [ha] at hs
      exact ⟨p, hp', by rw [ha]; simpa [Lit.sameKey, Go.intOf] using hs⟩
    · rintro ⟨p, hp', rfl⟩
      obtain ⟨a, ha⟩ := hkx p hp'
      exact ⟨⟨p, hp', by rw [ha]; simp [Lit.sameKey, Go.intOf]⟩, rfl⟩
end
set_option maxRecDepth 100000 in
set_option maxHeartbeats 1000000 in
theorem Hq.KEYS1N (F : Fence) (n : Nat) (h10 : F.fn 58) (hro : F.round = none) (hn : 1 ≤ n) (l Bm b nn : Nat) (D0 : DataW Nat) (J : List Int → World → Prop)
    (hY : ∀ pre x W, J pre W → pre.length < Maps.size D0 → YieldAt F (n - 1) Try.prog l #[encU x] W fun e W' => e = .returned (.bool true) ∧ J (pre ++ [x]) W' ∧ KeepsWalks W W')
    (W : World) (hJ : AbidesFrom W.heap.size J) (hm : W.cell? ⟨Bm, 0, none⟩ = some (.map (some b))) (hown : W.ownsMap Try.prog 57 anyR b nn D0) (h0 : J [] W) :
    CallsIn F n Try.prog 58 #[.func (.yield l) #[] #[], .pointer (some ⟨Bm, 0, none⟩)] W fun e W' => (∃ v, e = .returned v) ∧ ∃ ss : List Int, ss.Perm (intKeys D0) ∧ J ss W' := by
  refine callsIn_of_wp Try.func58 rfl h10 ?_ hro
  simp only [Try.ntmps58, List.size_toArray, List.length_cons, List.length_nil, Nat.reduceAdd, Nat.reduceSub, Array.replicate_succ, Array.replicate_zero, List.push_toArray, List.append_toArray, List.nil_append, List.cons_append]
  gi_wp2_with (first
    | (gi_at_range; refine wpListIn_range_own _ rfl _ 69 rfl 57 80 (int_keyed Try.underlying57) Try.underlying69 _ b nn _ rfl hown ?_; intro w0 hrg0 hg0 hs0)
    | gi_in)
  go_frame
  gi_loopw [3] (fun _ wr => ∃ (left : Lit → Bool) (cnt : Nat) (ss : List Int), wr.ranges Try.prog 57 anyR b W.heap.size nn D0 left cnt ∧ ss.length + cnt ≤ Maps.size D0 ∧ CollU D0 left ss ∧ J ss wr)
    (fun _ wr => wr.rangeLeft b W.heap.size)
  case atStart =>
    exact ⟨_, _, [], hrg0, by simp, CollU.start D0, hJ [] W w0 none h0 hg0 (fun r e => by cases e)⟩
  case round =>
    obtain ⟨left, cnt, ss, hrg, hcs, hC, hJs⟩ := hrel
    gi_wp2_with (first
      | (gi_at_next; refine wpListIn_next_ranges _ rfl _ rfl 57 (int_keyed Try.underlying57) anyR encU id (fun key kl hk => by obtain ⟨x, hx, _⟩ := keyOf_u64 Try.underlying57 hk; exact ⟨x, hx⟩) (fun v _ _ => ⟨v, rfl⟩) b W.heap.size nn _ _ _ rfl hrg ?_ ?_)
      | gi_in)
    ·
      intro hc0 hl0
      gi_wp2
      go_end0
      exact ⟨⟨_, rfl⟩, ss, hC.perm hown (int_keyed Try.underlying57) Try.underlying57 hl0, hJs⟩
    ·
      intro x c kl yd yp w2 cnt2 hkey hlk hv hat hrg2 hlt hg2 hs2 hen
      obtain ⟨x', ex, rfl, _⟩ := keyOf_u64 Try.underlying57 hkey
      obtain rfl : x = x' := encU_inj ex
      have hJ2 : J ss w2 := hJ ss wr w2 (some W.heap.size) hJs hg2 (fun r e => by cases e; exact ⟨Nat.le_refl _, hrg.iter_walk⟩)
      obtain ⟨fn, tmps, assign, body, hy, hR⟩ := hY ss x w2 hJ2 (by omega)
      clear hs2
      gi_wp2
      refine hR.mono ?_
      rintro e W3 ⟨rfl, hJ3, hk3⟩
      gi_wp2
      have hrg3 := hrg2.of_walks hk3
      go_roundw
      case rel => exact ⟨_, cnt2, ss ++ [x], hrg3, by simp; omega, hC.step hlk hat, hJ3⟩
      case measure => rw [hrg3.left_eq, hrg.left_eq]; exact hlt


theorem Hq.KEYSG (F : Fence) (n : Nat) (h10 : F.fn 58) (hro : F.round = none) (hn : 1 ≤ n) (Bm b nn : Nat) (D0 : DataW Nat) (w : World) (hBm : Bm < w.heap.size)
    (hm : w.cell? ⟨Bm, 0, none⟩ = some (.map (some b))) (hown : w.ownsMap Try.prog 57 anyR b nn D0) :
    SeqGives F n Try.prog 58 #[.pointer (some ⟨Bm, 0, none⟩)] encU (fun ss => ss.Perm (intKeys D0)) (Maps.size D0) w := fun l J W hW hJ hY h0 => by
  have hown' : W.ownsMap Try.prog 57 anyR b nn D0 := by
    have hbl := hown.lt
    obtain ⟨es, clock, hb, Ft, hs, hD⟩ := hown
    exact ⟨es, clock, (hW.block b hbl).trans hb, Ft, hs, hD⟩
  exact Hq.KEYS1N F n h10 hro hn l Bm b nn D0 J hY W hJ ((hW.cell (p := ⟨Bm, 0, none⟩) hBm).trans hm) hown' h0



def Hq.apAssign : Code := (Code.region 2 #[{ dst := some 5, op := Op.assign (Operand.tmp 7), type := 57, pos := "iter.go:51", after := #[], guard := none }] false)
def Hq.apBody : Code := (Code.block 1 (Code.region 3 #[{ dst := some 8, op := Op.load 62 (Operand.tmp 2), type := 62, pos := "iter.go:52", after := #[], guard := none }, { dst := some 9, op := Op.move (Operand.tmp 5), type := 57, pos := "iter.go:52", after := #[], guard := none }, { dst := some 10, op := Op.buildSlice 62 1 #[(0, Operand.tmp 9)], type := 62, pos := "iter.go:52", after := #[{ on := 1, ground := Ground.data }], guard := none }, { dst := some 11, op := Op.call { callee := Callee.builtin Builtin.append, args := #[Operand.tmp 8, Operand.tmp 10], argTypes := #[62, 62] }, type := 62, pos := "iter.go:52", after := #[{ on := 0, ground := Ground.data }, { on := 2, ground := Ground.data }], guard := none }, { dst := none, op := Op.store 62 (Operand.tmp 2) (Operand.tmp 11), type := 0, pos := "iter.go:52", after := #[{ on := 3, ground := Ground.data }, { on := 3, ground := Ground.chain }, { on := 0, ground := Ground.phase }, { on := 1, ground := Ground.phase }, { on := 2, ground := Ground.phase }, { on := 3, ground := Ground.phase }], guard := none }] false))
def Hq.apRec (fn : FuncId) (sv : Value) (Bs D : Nat) (st : LoopState) (pend : Option Code) : Loop :=
  { state := st, pending := pend, fn, tmps := #[.slice none 0 0, sv, .pointer (some ⟨Bs, 0, none⟩), undef, .slice none 0 0, undef, sv, undef, undef, undef, undef, undef, undef], params := #[7], assign := Hq.apAssign, body := Hq.apBody, defers := D }

structure Hq.ApAt (w0 : World) (fn : FuncId) (sv : Value) (Bs l D : Nat) (ss : List Int) (W : World) : Prop where
  box : ∃ v, W.heap[Bs]? = some (.cells #[v] 62 (0, 0)) ∧ W.ownsRow w0.heap.size 57 1 v ss.length (ss.map encU) ∧ (v = .slice none 0 0 ↔ ss = [])
  L : W.heap[l]? = some (.loop (Hq.apRec fn sv Bs D .ready none))
  K : W.heap[D]? = some (.deferred (some []))
  below : Below w0.heap.size w0 W

theorem ownsRow_abides {W W' : World} {row : Option Nat} {base : Nat} {e : TypeId} {size : Nat} {v : Value} {k : Nat} {xs : List Value} (h : W.ownsRow base e size v k xs) (hg : W.grownBy W' row)
    (hrow : ∀ r, row = some r → ∃ o : Obj, W.heap[r]? = some o ∧ o.isWalk = true) : W'.ownsRow base e size v k xs := by
  refine h.kept hg ?_
  rcases h.2 with ⟨rfl, _⟩ | ⟨g, cap, cur, rfl, _, hgb, _⟩
  · exact .inl rfl
  · refine .inr fun e' => ?_
    obtain ⟨o, ho, hw⟩ := hrow g (by simpa [Value.ownBlock] using e'.symm)
    rw [hgb] at ho; cases ho; cases hw

theorem Hq.ap_abides (w0 : World) (fn : FuncId) (sv : Value) (Bs l D B : Nat) (hB : w0.heap.size ≤ B) : AbidesFrom B (Hq.ApAt w0 fn sv Bs l D) := fun s W W' row h hg hrow => by
  have hrow' : ∀ r, row = some r → ∃ o : Obj, W.heap[r]? = some o ∧ o.isWalk = true := fun r e => (hrow r e).2
  obtain ⟨v, hv, hr, hn⟩ := h.box
  exact ⟨⟨v, (grownBy_keeps hg hrow' hv rfl).trans hv, ownsRow_abides hr hg hrow', hn⟩, (grownBy_keeps hg hrow' h.L rfl).trans h.L, (grownBy_keeps hg hrow' h.K rfl).trans h.K,
    h.below.grown hg h.below.size (fun k e => Nat.le_trans hB (hrow k e).1)⟩

theorem grownBy_putObj (W : World) (l : Nat) (o : Obj) : W.grownBy (W.putObj l o) (some l) :=
  ⟨rfl, rfl, rfl, by simp, fun k _ hk => World.putObj_heap_other (fun e => hk (by rw [e]))⟩
theorem grownBy_setCell0 (W : World) (b : Nat) (v : Value) : W.grownBy (W.setCell ⟨b, 0, none⟩ v) (some b) :=
  ⟨rfl, rfl, rfl, (KeepsWalks.setCell W _ v).size, fun k _ hk => Below.heap_setCell _ _ _ k (fun e => hk (by rw [e]))⟩
theorem ownsRow_ne {W : World} {base : Nat} {e : TypeId} {size : Nat} {v : Value} {k : Nat} {xs : List Value} (h : W.ownsRow base e size v k xs) {j : Nat} {o : Obj} (hj : W.heap[j]? = some o) (hno : ∀ cur, o ≠ .cells cur e (0, 0)) :
    v.ownBlock = none ∨ v.ownBlock ≠ some j := by
  rcases h.2 with ⟨rfl, _⟩ | ⟨g, cap, cur, rfl, _, hgb, _⟩
  · exact .inl rfl
  · refine .inr fun e' => ?_
    have : g = j := by simpa [Value.ownBlock] using e'
    subst this; rw [hgb] at hj; cases hj; exact hno cur rfl
theorem cell_of_box {W : World} {B : Nat} {v : Value} {t : TypeId} (h : W.heap[B]? = some (.cells #[v] t (0, 0))) : W.cell? ⟨B, 0, none⟩ = some v ∧ W.frozen? ⟨B, 0, none⟩ = false := by
  constructor <;> simp [World.cell?, World.frozen?, h]

theorem heap_setCell_box {W : World} {B : Nat} {v : Value} {t : TypeId} (v' : Value) (h : W.heap[B]? = some (.cells #[v] t (0, 0))) : (W.setCell ⟨B, 0, none⟩ v').heap[B]? = some (.cells #[v'] t (0, 0)) := by
  obtain ⟨hlt, hk⟩ := Array.getElem?_eq_some_iff.1 h
  show (W.heap.modify B _)[B]? = _
  rw [Array.getElem?_eq_getElem (by rw [Array.size_modify]; exact hlt), Array.getElem_modify_self, hk]
  rfl
theorem ownsRow_not_walk {W : World} {base : Nat} {e : TypeId} {size : Nat} {v : Value} {k : Nat} {xs : List Value} (h : W.ownsRow base e size v k xs) : ∀ (j : Nat) (o : Obj), v.ownBlock = some j → W.heap[j]? = some o → o.isWalk = false := by
  intro j o hj ho
  rcases h.2 with ⟨rfl, _⟩ | ⟨g, cap, cur, rfl, _, hgb, _⟩
  · simp [Value.ownBlock] at hj
  · have : g = j := by simpa [Value.ownBlock] using hj
    subst this; rw [hgb] at ho; cases ho; rfl

theorem UINFO : (Try.prog.info? 57).map (fun i => (i.zero, i.size, i.bytes)) = some (some (.int .u64 0), 1, 8) := by kernel_rfl

set_option maxRecDepth 100000 in
set_option maxHeartbeats 2000000 in
theorem Hq.APYIELD (F : Fence) (m : Nat) (w0 : World) (fn : FuncId) (hfn : F.fn fn) (sv : Value) (Bs l D : Nat) (hBl : Bs ≠ l) (hDl : D ≠ l) (hDB : D ≠ Bs) (h0B : w0.heap.size ≤ Bs) (h0l : w0.heap.size ≤ l)
    (N : Nat) (hN : N ≤ maxLen) (hNb : N * 8 ≤ 140737488355328) (ss : List Int) (x : Int) (W : World) (h : Hq.ApAt w0 fn sv Bs l D ss W) (hlen : ss.length < N) :
    YieldAt F m Try.prog l #[encU x] W fun e W' => e = .returned (.bool true) ∧ Hq.ApAt w0 fn sv Bs l D (ss ++ [x]) W' ∧ KeepsWalks W W' := by
  obtain ⟨i0, hi, hz0, hz1, hz2⟩ := info_parts UINFO
  obtain ⟨v, hv, hrow, _⟩ := h.box
  refine ⟨fn, #[.slice none 0 0, sv, .pointer (some ⟨Bs, 0, none⟩), undef, .slice none 0 0, undef, sv, encU x, undef, undef, undef, undef, undef], Hq.apAssign, Hq.apBody, by simpa [Hq.apRec] using run_yield (P := Try.prog) (args := #[encU x]) h.L rfl, roundIn_of_wpIn hfn ?_⟩
  have hl : l < W.heap.size := (Array.getElem?_eq_some_iff.1 h.L).1
  have hbr := run_beginRound (P := Try.prog) h.L rfl
  obtain ⟨W2, hW2⟩ : ∃ W2, W.putObj l (.loop { Hq.apRec fn sv Bs D .ready none with state := .busy }) = W2 := ⟨_, rfl⟩
  rw [hW2] at hbr
  have hg2 : W.grownBy W2 (some l) := by rw [← hW2]; exact grownBy_putObj _ _ _
  have hk2 : KeepsWalks W W2 := by rw [← hW2]; exact KeepsWalks.putObj _ h.L rfl
  have hv2 : W2.heap[Bs]? = some (.cells #[v] 62 (0, 0)) := by rw [← hW2]; exact (World.putObj_heap_other hBl).trans hv
  have hK2 : W2.heap[D]? = some (.deferred (some [])) := by rw [← hW2]; exact (World.putObj_heap_other hDl).trans h.K
  have hL2 : W2.heap[l]? = some (.loop { Hq.apRec fn sv Bs D .ready none with state := .busy }) := by rw [← hW2]; exact World.putObj_heap_same hl
  have hrow2 : W2.ownsRow w0.heap.size 57 1 v ss.length (ss.map encU) := hrow.kept hg2 (ownsRow_ne hrow h.L (fun cur e => by cases e))
  have hb2 : Below w0.heap.size w0 W2 := h.below.grown hg2 h.below.size (fun k e => by cases e; exact h0l)
  obtain ⟨hc2, hf2⟩ := cell_of_box hv2
  have hBlt : Bs < W2.heap.size := (Array.getElem?_eq_some_iff.1 hv2).1
  have hl2 : l < W2.heap.size := (Array.getElem?_eq_some_iff.1 hL2).1
  have hDlt : D < W2.heap.size := (Array.getElem?_eq_some_iff.1 hK2).1
  have ne_of : ∀ {j : Nat} {o : Obj}, W2.heap[j]? = some o → (∀ cur, o ≠ .cells cur 57 (0, 0)) → some j ≠ v.ownBlock := fun hj hno => by
    rcases ownsRow_ne hrow2 hj hno with e | e
    · rw [e]; simp
    · exact fun e' => e e'.symm
  clear hW2
  unfold Hq.apAssign
  gi_wp2_with (rw [Oper.semAt_eq _ _ _ (fun c h => by cases h)]; go_simp; try go_bits)
  unfold Hq.apBody
  gi_wp2_with (first
    | (gi_at_builtin; refine wpListIn_append_own _ rfl _ _ 62 rfl w0.heap.size 57 i0 (.int .u64 0) 1 8 Try.underlying62 hi hz0 hz1 hz2 rfl (by decide) _ _ _ rfl (hrow2.alloc _) ⟨W2.heap.size, 0, none⟩ 1 1 [encU x] rfl rfl (cell_one_new _ _ _) (by simp [Value.oneCell', encU]) (by omega) (by omega) (by have := hb2.size; simp; omega) ?_; intro v' w3 hown' hg3 hnil3
       have hv3 : w3.heap[Bs]? = some (.cells #[v] 62 (0, 0)) := (hg3.block Bs (by simp; omega) (ne_of hv2 (fun cur e => by cases e))).trans ((Below.heap_alloc _ _ Bs hBlt).trans hv2)
       obtain ⟨hc3, hf3⟩ := cell_of_box hv3
       obtain ⟨g', cap', cur', rfl, hbase', hgb', hr1, hr2, hr3, hr4⟩ : ∃ g' cap' cur', v' = .slice (some ⟨g', 0, none⟩) (ss.length + 1) cap' ∧ w0.heap.size ≤ g' ∧ w3.heap[g']? = some (.cells cur' 57 (0, 0)) ∧ ss.length + 1 ≤ cap' ∧ cap' ≤ maxLen ∧ cur'.size = cap' * 1 ∧ cur'.toList.take ((ss.length + 1) * 1) = ss.map encU ++ [encU x] := by
         rcases hown'.2 with ⟨_, h0⟩ | h'
         · exact absurd h0 (by omega)
         · exact h'
       go_frame)
    | (rw [Oper.semAt_eq _ _ _ (fun c h => by cases h)]; go_simp; try go_bits))
  have hg3' : (W2.alloc (.cells #[encU x] 57)).grownBy w3 v.ownBlock := hg3
  have hL3 : w3.heap[l]? = some (.loop { Hq.apRec fn sv Bs D .ready none with state := .busy }) := (hg3'.block l (by simp; omega) (ne_of hL2 (fun cur e => by cases e))).trans ((Below.heap_alloc _ _ l hl2).trans hL2)
  have hK3 : w3.heap[D]? = some (.deferred (some [])) := (hg3'.block D (by simp; omega) (ne_of hK2 (fun cur e => by cases e))).trans ((Below.heap_alloc _ _ D hDlt).trans hK2)
  obtain ⟨w4, hw4⟩ : ∃ w4, w3.setCell ⟨Bs, 0, none⟩ (.slice (some ⟨g', 0, none⟩) (ss.length + 1) cap') = w4 := ⟨_, rfl⟩
  rw [hw4]
  have hg4 : w3.grownBy w4 (some Bs) := by rw [← hw4]; exact grownBy_setCell0 _ _ _
  have hv4 : w4.heap[Bs]? = some (.cells #[.slice (some ⟨g', 0, none⟩) (ss.length + 1) cap'] 62 (0, 0)) := by rw [← hw4]; exact heap_setCell_box _ hv3
  have hL4 : w4.heap[l]? = some (.loop { Hq.apRec fn sv Bs D .ready none with state := .busy }) := (hg4.block l (Array.getElem?_eq_some_iff.1 hL3).1 (fun e => hBl (by cases e; rfl))).trans hL3
  have hK4 : w4.heap[D]? = some (.deferred (some [])) := (hg4.block D (Array.getElem?_eq_some_iff.1 hK3).1 (fun e => hDB (by cases e; rfl))).trans hK3
  have hrow4 := hown'.kept hg4 (ownsRow_ne hown' hv3 (fun cur e => by cases e))
  have hl4 : l < w4.heap.size := (Array.getElem?_eq_some_iff.1 hL4).1
  have hb3 : Below w0.heap.size w0 w3 := (hb2.alloc hb2.size _).grown hg3' (by have := hb2.size; simp; omega) (fun k e => (hrow2.lt k e).1)
  have hb4 : Below w0.heap.size w0 w4 := hb3.grown hg4 hb3.size (fun k e => by cases e; exact h0B)
  have hk4 : KeepsWalks W w4 := ((hk2.trans (KeepsWalks.alloc _ _)).trans (KeepsWalks.of_grownBy hg3' (ownsRow_not_walk (hrow2.alloc _)))).trans (by rw [← hw4]; exact KeepsWalks.setCell _ _ _)
  clear hw4
  refine ⟨_, _, run_endRound none hL4, rfl, ⟨⟨_, (World.putObj_heap_other hBl).trans hv4, ?_, by simp⟩, World.putObj_heap_same hl4, (World.putObj_heap_other hDl).trans hK4, hb4.grown (grownBy_putObj _ _ _) hb4.size (fun k e => by cases e; exact h0l)⟩, hk4.trans (KeepsWalks.putObj _ hL4 rfl)⟩
  have := hrow4.kept (grownBy_putObj w4 l (.loop { { Hq.apRec fn sv Bs D .ready none with state := .busy } with state := if (none : Option Code).isNone then .ready else .done, pending := none })) (ownsRow_ne hrow4 hL4 (fun cur e => by cases e))
  simpa using this


set_option maxRecDepth 100000 in
set_option maxHeartbeats 2000000 in
theorem Hq.APSEQ (F : Fence) (n : Nat) (h11 : F.fn 62) (hro : F.round = none) (hn : 2 ≤ n) (g : Nat) (lb : Array Value) (hFg : F.fn g) (eg : ∀ args w, (callFunc g args).run Try.prog w = .ok (.enter g args) w)
    (S : List Int → Prop) (N : Nat) (hN : N ≤ maxLen) (hNb : N * 8 ≤ 140737488355328) (w : World) (hseq : SeqGives F (n - 1) Try.prog g lb encU S N w) :
    CallsIn F n Try.prog 62 #[.slice none 0 0, .func (.func g) #[] lb] w fun e w' => ∃ (v : Value) (ss : List Int), e = .returned v ∧ S ss ∧ w'.ownsRow w.heap.size 57 1 v ss.length (ss.map encU) ∧ (v = .slice none 0 0 ↔ ss = []) ∧ Below w.heap.size w w' := by
  have h1 : 1 ≤ n := by omega
  refine callsIn_of_wp_marks Try.func62 rfl h11 ?_ hro
  simp only [Try.ntmps62, List.size_toArray, List.length_cons, List.length_nil, Nat.reduceAdd, Nat.reduceSub, Array.replicate_succ, Array.replicate_zero, List.push_toArray, List.append_toArray, List.nil_append, List.cons_append]
  gi_wp2
  refine wpIn_rangeFunc ?_
  intro fn hfn
  rw [hro]
  obtain ⟨W0, hW0⟩ : ∃ W0, w.alloc (.cells #[.slice none 0 0] 62) = W0 := ⟨_, rfl⟩
  have hs0 : W0.heap.size = w.heap.size + 1 := by rw [← hW0]; simp
  have hv0 : W0.heap[w.heap.size]? = some (.cells #[.slice none 0 0] 62 (0, 0)) := by rw [← hW0]; exact World.alloc_heap_new w _
  have hb0 : Below w.heap.size w W0 := by rw [← hW0]; exact (Below.refl _ w).alloc (Nat.le_refl _) _
  rw [hW0]
  obtain ⟨W1, hW1⟩ : ∃ W1, (W0.alloc (.deferred (some []))).alloc (.loop (Hq.apRec fn (.func (.func g) #[] lb) w.heap.size W0.heap.size .ready none)) = W1 := ⟨_, rfl⟩
  have hold : ∀ k, k < W0.heap.size → W1.heap[k]? = W0.heap[k]? := fun k hk => by
    rw [← hW1]; exact (Below.heap_alloc _ _ k (by simp; omega)).trans (Below.heap_alloc _ _ k hk)
  have hb1 : Below w.heap.size w W1 := by rw [← hW1]; exact (hb0.alloc hb0.size _).alloc (by have := hb0.size; simp; omega) _
  have hs1 : W1.heap.size = W0.heap.size + 2 := by rw [← hW1]; simp
  have hM : Hq.ApAt w fn (.func (.func g) #[] lb) w.heap.size (W0.heap.size + 1) W0.heap.size [] W1 :=
    ⟨⟨_, (hold w.heap.size (by omega)).trans hv0, ⟨rfl, .inl ⟨rfl, rfl⟩⟩, by simp⟩,
     by rw [← hW1]; have := World.alloc_heap_new (W0.alloc (.deferred (some []))) (.loop (Hq.apRec fn (.func (.func g) #[] lb) w.heap.size W0.heap.size .ready none)); rwa [World.size_alloc] at this,
     by rw [← hW1]; exact (Below.heap_alloc _ _ _ (by simp)).trans (World.alloc_heap_new W0 _), hb1⟩
  refine ⟨W0.heap.size + 1, [{ target := .collected W0.heap.size, args := #[] }], W1, { target := .fn (.func g) lb, args := #[.func (.yield (W0.heap.size + 1)) #[] #[]] }, W1, g,
    #[.func (.yield (W0.heap.size + 1)) #[] #[]] ++ lb, W1, ?_, ?_, ?_, ?_, fun _ => h1, ?_⟩
  · rw [← hW1]; exact run_enterLoop_outer _ _ _ _ _
  · simp [resolve, go_sem]
  · intro f' hf'; simp [Target.leads] at hf'; subst hf'; exact hFg
  · simp [invoke, go_sem, eg]
  · refine (hseq (W0.heap.size + 1) (Hq.ApAt w fn (.func (.func g) #[] lb) w.heap.size (W0.heap.size + 1) W0.heap.size) W1 hb1 (Hq.ap_abides _ _ _ _ _ _ _ hb1.size)
      (fun pre x W hJ hl => Hq.APYIELD F (n - 1 - 1) w fn hfn _ w.heap.size (W0.heap.size + 1) W0.heap.size (by omega) (by omega) (by omega) (Nat.le_refl _) (by omega) N hN hNb pre x W hJ hl) hM).mono ?_
    rintro e W2 ⟨⟨v0, rfl⟩, ss, hS, h2⟩
    obtain ⟨v, hv, hrow, hnil⟩ := h2.box
    have hend := run_endLoop (P := Try.prog) h2.L (by simp [Hq.apRec])
    obtain ⟨W3, hW3⟩ : ∃ W3, W2.putObj (W0.heap.size + 1) (.loop { Hq.apRec fn (.func (.func g) #[] lb) w.heap.size W0.heap.size .ready none with state := .exhausted }) = W3 := ⟨_, rfl⟩
    rw [hW3] at hend
    have hg3 : W2.grownBy W3 (some (W0.heap.size + 1)) := by rw [← hW3]; exact grownBy_putObj _ _ _
    have hv3 : W3.heap[w.heap.size]? = some (.cells #[v] 62 (0, 0)) := by rw [← hW3]; exact (World.putObj_heap_other (by omega)).trans hv
    have hK3 : W3.heap[W0.heap.size]? = some (.deferred (some [])) := by rw [← hW3]; exact (World.putObj_heap_other (by omega)).trans h2.K
    have hrow3 := hrow.kept hg3 (ownsRow_ne hrow h2.L (fun cur e => by cases e))
    have hb3 : Below w.heap.size w W3 := h2.below.grown hg3 h2.below.size (fun k e => by cases e; omega)
    obtain ⟨hc3, hf3⟩ := cell_of_box hv3
    clear hW3
    refine ⟨none, W3, hend, ?_⟩
    gi_wp2
    rw [← hs0]
    refine ⟨by simp, .inl ⟨_, _, rfl, run_takeDeferred hK3, ?_⟩⟩
    exact ⟨_, results_tmp rfl _ _ _, v, ss, rfl, hS, hrow3.kept (grownBy_putObj _ _ _) (ownsRow_ne hrow3 hK3 (fun cur e => by cases e)), hnil, hb3.grown (grownBy_putObj _ _ _) hb3.size (fun k e => by cases e; omega)⟩


set_option maxHeartbeats 1000000 in
theorem Hq.COLL (F : Fence) (n : Nat) (h8 : F.fn 56) (h11 : F.fn 62) (hro : F.round = none) (hn : 3 ≤ n) (g : Nat) (lb : Array Value) (hFg : F.fn g) (eg : ∀ args w, (callFunc g args).run Try.prog w = .ok (.enter g args) w)
    (S : List Int → Prop) (N : Nat) (hN : N ≤ maxLen) (hNb : N * 8 ≤ 140737488355328) (w : World) (hseq : SeqGives F (n - 1 - 1) Try.prog g lb encU S N w) :
    CallsIn F n Try.prog 56 #[.func (.func g) #[] lb] w fun e w' => ∃ (v : Value) (ss : List Int), e = .returned v ∧ S ss ∧ w'.ownsRow w.heap.size 57 1 v ss.length (ss.map encU) ∧ (v = .slice none 0 0 ↔ ss = []) ∧ Below w.heap.size w w' := by
  have h1 : 1 ≤ n := by omega
  refine callsIn_of_wp Try.func56 rfl h8 ?_ hro
  simp only [Try.ntmps56, List.size_toArray, List.length_cons, List.length_nil, Nat.reduceAdd, Nat.reduceSub, Array.replicate_succ, Array.replicate_zero, List.push_toArray, List.append_toArray, List.nil_append, List.cons_append]
  gi_wp2_with (gi_at_call 62; refine (Hq.APSEQ F (n - 1) h11 hro (by omega) g lb hFg eg S N hN hNb _ hseq).mono ?_; rintro e w' ⟨v, ss, rfl, hS, hrow, hnil, hb⟩)
  go_ret
  exact ⟨v, ss, rfl, hS, hrow, hnil, hb⟩


theorem map_ownU {w : World} {m : Nat} {V : Type} {es : List (Int × V)} {vv : V → Value} (hM : MapC (Value.int .u64) vv w m es) (hk : ∀ p ∈ es, (Lit.int .u64 p.1).wf = true) (hn : es.length ≤ 1000000) :
    ∃ D0 : DataW Nat, w.ownsMap Try.prog 57 anyR m es.length D0 ∧ Maps.size D0 = es.length ∧ (intKeys D0).Perm (es.map Prod.fst) := by
  obtain ⟨arr, clock, hb, hs, he⟩ := hM
  have hlen : arr.size = es.length := by have := congrArg List.length he; simpa using this
  have hkey : ∀ x ∈ arr.toList, ∃ p ∈ es, x.key = Value.int .u64 p.1 := by
    intro x hx
    have h1 := congrArg (List.map Prod.fst) he
    simp only [List.map_map] at h1
    have h2 : x.key ∈ es.map ((Prod.fst : Value × Value → Value) ∘ fun p => (Value.int .u64 p.1, vv p.2)) := by
      rw [← h1]; exact List.mem_map.2 ⟨x, hx, rfl⟩
    obtain ⟨p, hp, he2⟩ := List.mem_map.1 h2
    exact ⟨p, hp, he2.symm⟩
  have hrd : ∀ x ∈ arr.toList, ∀ a : Int, x.key = Value.int .u64 a → WideElems.rd Try.prog 57 anyR x = some (.int .u64 a, .lit (.bool true)) := by
    intro x hx a ha
    obtain ⟨p, hp, hp2⟩ := hkey x hx
    have : a = p.1 := by rw [ha] at hp2; injection hp2
    subst this
    have h3 : keyOf Try.prog 57 x.key = some (.int .u64 p.1) := by rw [ha]; exact keyOf_int_mk Try.underlying57 (hk p hp)
    unfold WideElems.rd anyR
    rw [h3]; rfl
  have F : WideElems.Fit Try.prog 57 anyR arr clock := ⟨by rw [hlen]; unfold maxLen; omega, hs, fun x hx => by
    obtain ⟨p, hp, hp2⟩ := hkey x hx
    exact ⟨_, hrd x hx _ hp2⟩⟩
  refine ⟨_, ⟨arr, clock, hb, F, by omega, rfl⟩, ?_, ?_⟩
  · rw [Maps.size_eq, length_sorted]; simp [hlen]
  · show (((arr.toList.map (WideElems.rg Try.prog 57 anyR)).foldr DataW.insert []).map fun (p : Lit × DataW Nat) => Go.intOf p.1).Perm _
    refine ((Go.WideShapes.sorted_perm _).map _).trans ?_
    rw [List.map_map]
    have : arr.toList.map ((fun p : Lit × DataW Nat => Go.intOf p.1) ∘ WideElems.rg Try.prog 57 anyR) = es.map Prod.fst := by
      have h1 := congrArg (List.map Prod.fst) he
      simp only [List.map_map] at h1
      have h4 : (arr.toList.map fun e => e.key) = (es.map Prod.fst).map (Value.int .u64) := by rw [List.map_map]; exact h1
      have h5 : arr.toList.map ((fun p : Lit × DataW Nat => Go.intOf p.1) ∘ WideElems.rg Try.prog 57 anyR) = arr.toList.map fun e => match e.key with | .int _ a => a | _ => 0 := by
        apply List.map_congr_left
        intro x hx
        obtain ⟨p, hp, hp2⟩ := hkey x hx
        simp only [Function.comp]
        rw [WideElems.rg_of (hrd x hx _ hp2), hp2]; rfl
      rw [h5]
      have h6 : (arr.toList.map fun e => match e.key with | .int _ a => a | _ => 0) = (arr.toList.map fun e => e.key).map fun v => match v with | .int _ a => a | _ => 0 := by rw [List.map_map]; rfl
      rw [h6, h4, List.map_map]
      apply List.ext_getElem?
      intro i
      simp only [List.getElem?_map]
      cases (es[i]?) <;> rfl
    rw [this]
theorem collectU_ret {w : World} {m b t : Nat} {V : Type} {es : List (Int × V)} {vv : V → Value} (hM : MapC (Value.int .u64) vv w m es) (hk : ∀ p ∈ es, (Lit.int .u64 p.1).wf = true) (hn : es.length ≤ 1000000) (hB : Bx w b t [.map (some m)]) :
    Ret Try.prog 56 #[.func (.func 58) #[] #[ptr b 0]] w (fun v' w' => Below w.heap.size w w' ∧ ∃ ss : List Int, ss.Perm (es.map Prod.fst) ∧ Own w' w.heap.size 57 1 v' ss.length (ss.map (Value.int .u64))) := by
  obtain ⟨D0, hown, hsz, hp⟩ := map_ownU hM hk hn
  refine (callsIn_wide (n := 5)).1 ?_
  have hseq : SeqGives Fence.wide (5 - 1 - 1) Try.prog 58 #[.pointer (some ⟨b, 0, none⟩)] encU (fun ss => ss.Perm (intKeys D0)) (Maps.size D0) w :=
    Hq.KEYSG Fence.wide _ trivial rfl (by omega) b m es.length D0 w hB.lt (hB.cell rfl) hown
  have cS := Hq.COLL Fence.wide 5 trivial trivial rfl (by omega) 58 #[.pointer (some ⟨b, 0, none⟩)] trivial (enters_of Try.func58 (by kernel_rfl) rfl) _ _ (by rw [hsz]; unfold maxLen; omega) (by rw [hsz]; omega) _ hseq
  refine cS.mono ?_
  rintro e w' ⟨v, ss, rfl, hS, hrow, hnil, hb⟩
  exact ⟨v, rfl, hb, ss, hS.trans hp, own_of_row hrow⟩
end Go.Proofs.Ytdhpalioifjfbaa

namespace Go.Proofs.Ytdhpalioifjfbaa
open Go.Gx Go.RowKit Go.Sort
def toZ (x : UInt64) : Int := (x.toNat : Int)
def sortI (l : List Int) : List Int := l.mergeSort (fun x y => decide (x ≤ y))
theorem wf_rng {x : Int} (h : (Lit.int .u64 x).wf = true) : 0 ≤ x ∧ x ≤ 18446744073709551615 := by
  simp only [Lit.wf, IntKind.min, IntKind.max, IntKind.signed, IntKind.bits, Bool.and_eq_true, decide_eq_true_eq] at h; simp at h; omega
theorem toZ_of {x : Int} (h : (Lit.int .u64 x).wf = true) : toZ (UInt64.ofNat x.toNat) = x := by
  have := wf_rng h
  unfold toZ
  rw [UInt64.toNat_ofNat']
  omega
theorem u64_of {ss : List Int} (h : ∀ x ∈ ss, (Lit.int .u64 x).wf = true) : ∃ d : Ar, ss = d.toList.map toZ ∧ d.size = ss.length ∧ ss.map (Value.int .u64) = d.toList.map u64v := by
  have e1 : ss = (ss.map fun x => UInt64.ofNat x.toNat).map toZ := by
    rw [List.map_map]
    conv => lhs; rw [← List.map_id ss]
    exact List.map_congr_left fun x hx => (toZ_of (h x hx)).symm
  refine ⟨(ss.map fun x => UInt64.ofNat x.toNat).toArray, by simpa using e1, by simp, ?_⟩
  rw [show (ss.map fun x => UInt64.ofNat x.toNat).toArray.toList = ss.map fun x => UInt64.ofNat x.toNat from rfl, List.map_map]
  refine List.map_congr_left fun x hx => ?_
  show Value.int .u64 x = Value.int .u64 (toZ (UInt64.ofNat x.toNat))
  rw [toZ_of (h x hx)]
theorem sorted_u64 {d d' : Ar} {n : Nat} (hd : d.size = n) (hp : PI 0 n d d') (hs : SortedIn ltT 0 n d') : d'.toList.map toZ = sortI (d.toList.map toZ) := by
  have hz : d'.size = n := hp.sz.trans hd
  have e1 : d.extract 0 n = d := by rw [← hd]; exact Array.extract_size
  have e2 : d'.extract 0 n = d' := by rw [← hz]; exact Array.extract_size
  have hperm := hp.2.2
  rw [e1, e2] at hperm
  have hpl : (d'.toList.map toZ).Perm (d.toList.map toZ) := hperm.map toZ
  have tr : ∀ a b c : Int, decide (a ≤ b) = true → decide (b ≤ c) = true → decide (a ≤ c) = true := fun a b c h1 h2 => by simp only [decide_eq_true_eq] at *; omega
  have to : ∀ a b : Int, (decide (a ≤ b) || decide (b ≤ a)) = true := fun a b => by simp only [Bool.or_eq_true, decide_eq_true_eq]; omega
  refine List.Perm.eq_of_pairwise (le := fun a b => decide (a ≤ b) = true) (fun a b _ _ h1 h2 => ?_) ?_ (List.pairwise_mergeSort tr to _) (hpl.trans (List.mergeSort_perm _ _).symm)
  · simp only [decide_eq_true_eq] at h1 h2; omega
  · rw [List.pairwise_map, List.pairwise_iff_getElem]
    intro i j hi hj hij
    have hi' : i < d'.size := by simpa using hi
    have hj' : j < d'.size := by simpa using hj
    have := hs i j (Nat.zero_le _) hij (by omega)
    simp only [ltT, decide_eq_false_iff_not] at this
    have a1 : d'[i]! = d'.toList[i] := by simp [hi']
    have a2 : d'[j]! = d'.toList[j] := by simp [hj']
    rw [a1, a2] at this
    rw [decide_eq_true_eq]; unfold toZ
    omega
theorem sortI_perm {l m : List Int} (h : l.Perm m) : sortI l = sortI m := mergeSort_of_perm_i h
end Go.Proofs.Ytdhpalioifjfbaa

namespace Go.Proofs.Ytdhpalioifjfbaa
open Go.Gx Go.RowKit
attribute [local irreducible] wpList wpStill Code.wp Calls
open Go.Sort (insertionSort insOuter insInner swp siftDown heapSort heapBuild heapPop scanUp scanDown partition partLoop partitionEqual partEqLoop scanSorted partialIns bitsLen partialInsertionSort shiftDown shiftUp SortedIn reverseRange reverseLoop fixDown fixUp)
theorem sortedF_ret {V : Type} {vv : V → Value} {es : List (Int × V)} {m b t : Nat} {w : World} (hM : MapC (.int .u64) vv w m es) (hwf : ∀ p ∈ es, (Lit.int .u64 p.1).wf = true) (hn : es.length ≤ 12) (hB : Bx w b 69 [.map (some m)]) : Ret Try.prog 50 #[(.func (.func 58) #[] #[(ptr b 0)])] w (fun v' w' => Below w.heap.size w w' ∧ ∃ (ss : List Int) (d d' : Ar), ss.Perm (es.map Prod.fst) ∧ ss = d.toList.map toZ ∧ d.size = ss.length ∧ PI 0 ss.length d d' ∧ SortedIn ltT 0 ss.length d' ∧ Own w' w.heap.size 57 1 v' ss.length (d'.toList.map u64v)) := by
 have hb := Below.refl w.heap.size w
 refine enter (N := 9) Try.func50 rfl rfl (by simp) fun c hN hd hA => ?_
 have e : c.tmps.getD 0 undef = (.func (.func 58) #[] #[(ptr b 0)]) := hA 0 (by simp)
 clear hA
 refine zF fun _ c => zH ?_
 refine zD rfl (zB (c _ _ (zF fun _ c => zH (zG (zC hN rfl e) (zj ok56 (collectU_ret hM hwf zx hB) ⟨(zA hN rfl), trivial⟩ ?_)))))
 rintro g h ⟨f, ss, hpm, e⟩
 have f := zQ f
 obtain ⟨hb, _⟩ := yE hb f
 obtain ⟨dk, hsk, hzk, hck⟩ := u64_of (ss := ss) (fun x hx => by obtain ⟨a, ha, hq⟩ := List.mem_map.1 (hpm.mem_iff.1 hx); rw [← hq]; exact hwf a ha)
 have hln : ss.length = es.length := by rw [hpm.length_eq, List.length_map]
 rw [hck] at e
 have e := e.mono (base' := w.heap.size) zx
 refine zD (zA hN rfl) (zB (c _ _ (zF fun _ c => zH (zG (zA hN rfl) (zj ok57 (sortS_ret dk _ ss.length _ 0 _ (by first | assumption | omega) zx e zx) ⟨(zA hN rfl), trivial⟩ ?_)))))
 rintro _ j ⟨f, rfl, h, hpi, hso, g⟩
 have := f.size
 have hb := below_stepO hb e f hb.size zx
 refine zB (c _ _ (zF fun _ c => zH (zG (zA hN rfl) (zD (zA hN rfl) (zB (c _ _ (wp_ret (ret1 rfl hd (zA hN rfl) ⟨_, rfl, ?_⟩))))))))
 exact ⟨hb, ss, dk, _, hpm, hsk, hzk, hpi, hso, g⟩

theorem sortedU12_ret {V : Type} {vv : V → Value} {es : List (Int × V)} {m b : Nat} {w : World} (hM : MapC (.int .u64) vv w m es) (hwf : ∀ p ∈ es, (Lit.int .u64 p.1).wf = true) (hn : es.length ≤ 12) (hB : Bx w b 69 [.map (some m)]) : Ret Try.prog 50 #[.func (.func 58) #[] #[ptr b 0]] w (fun v' w' => Below w.heap.size w w' ∧ Own w' w.heap.size 57 1 v' (sortI (es.map Prod.fst)).length ((sortI (es.map Prod.fst)).map (Value.int .u64))) :=
  (sortedF_ret (t := 69) hM hwf hn hB).mono fun v' w' ⟨hb, ss, d, d', hpm, hsk, hzk, hpi, hso, hO⟩ => by
    have e1 := sorted_u64 hzk hpi hso
    have e2 : d'.toList.map u64v = (d'.toList.map toZ).map (Value.int .u64) := by rw [List.map_map]; rfl
    have e3 : sortI ss = sortI (es.map Prod.fst) := sortI_perm hpm
    rw [← hsk, e3] at e1
    rw [e2, e1] at hO
    have e4 : (sortI (es.map Prod.fst)).length = ss.length := by unfold sortI; rw [List.length_mergeSort, hpm.length_eq]
    exact ⟨hb, hO.cast e4.symm rfl⟩

end Go.Proofs.Ytdhpalioifjfbaa

namespace Go.Proofs.Ytdhpalioifjfbaa
open Go.Gx Go.RowKit

section
variable {w : World} {base k m b t e sz n : Nat} {R : List (Int × By)} {F : Nat → Prop} {cs : List Value} {v : Value} {P : PM} {M : AM} {ps : List Nat} {v1 v2 : Value} {id : Int}
theorem MapsN.notBx (h : MapsN w base P ps M v1 v2) (B : Bx w b t cs) : ¬ (v1 = .map (some b) ∨ v2 = .map (some b)) := by
  rcases h with ⟨rfl, rfl, _⟩ | ⟨pm, mm, rfl, rfl, _, _, _, h1, h2⟩
  · rintro (q | q) <;> cases q
  · rintro (q | q)
    · injection q with q; injection q with q; exact B.notMap h1 q.symm
    · injection q with q; injection q with q; exact B.notMap h2 q.symm
theorem MapsN.notOwn {base2 : Nat} (h : MapsN w base P ps M v1 v2) (O : Own w base2 e sz v n cs) {x : Nat} (hx : Bl v x) : ¬ (v1 = .map (some x) ∨ v2 = .map (some x)) := by
  rcases h with ⟨rfl, rfl, _⟩ | ⟨pm, mm, rfl, rfl, _, _, _, h1, h2⟩
  · rintro (q | q) <;> cases q
  · rintro (q | q)
    · injection q with q; injection q with q; exact O.notMap h1 (by rw [q]; exact hx)
    · injection q with q; injection q with q; exact O.notMap h2 (by rw [q]; exact hx)
theorem HeapR.notBx (h : HeapR w base k R m F) (B : Bx w b t cs) (h1 : t ≠ 71) (h2 : t ≠ 50) (h3 : t ≠ 5) : ¬ F b := fun hf => by
  obtain ⟨P, nx, M, ⟨v1, v2, ps, F0, hk, hx, hA, hMs, hF⟩, _⟩ := h
  rcases (hF b).1 hf with q | q | q | q
  · subst q; exact B.ne hx h1 rfl
  · exact hMs.notBx B (.inl q)
  · exact hMs.notBx B (.inr q)
  · exact hA.notBx B h2 h3 q
theorem HeapR.notOwn {base2 : Nat} (h : HeapR w base k R m F) (O : Own w base2 e sz v n cs) (h1 : e ≠ 71) (h2 : e ≠ 50) (h3 : e ≠ 5) : Dj (Bl v) F := fun x hx hf => by
  obtain ⟨P, nx, M, ⟨v1, v2, ps, F0, hk, hbx, hA, hMs, hF⟩, _⟩ := h
  rcases (hF x).1 hf with q | q | q | q
  · subst q; exact O.neB hbx (fun q => h1 q.symm) hx
  · exact hMs.notOwn O hx (.inl q)
  · exact hMs.notOwn O hx (.inr q)
  · exact hA.notOwn O h2 h3 x hx q
theorem hPut_good (id : Int) {r : By} {bv : Value} {Lo Bo : Nat} (hgd : badB r = false) (h : HeapR w base k R m F) (hbase : base ≤ w.heap.size) (hm : m < 1000000) (hbr : RdC w Lo Bo 1 bv r.length (r.map u8v)) (hap : ∀ x, F x → x < Lo ∨ Bo ≤ x) (hBw : Bo ≤ w.heap.size) :
    Ret Try.prog 28 #[ptr k 0, .int .u64 id, bv] w (fun v' w' => Gr w w' F ∧ v' = .int .i64 0 ∧ ∃ F', HeapR w' base k (mput R id r) (m + 1) F' ∧ NewF w.heap.size F F') :=
  (hPut_ret id h hbase hm hbr hap hBw).mono fun v' w' q => by
    unfold putO putR at q
    rw [if_neg (by rw [hgd]; decide), if_neg (by rw [hgd]; decide)] at q
    exact q
theorem el_i (f : Int → Value) {l : List Int} {e : Int} {i : Nat} (he : e = (i : Int)) (h : i < l.length) : (l.map f)[e.toNat * 1 + 0]? = some (f (l.getD i 0)) := by
  subst he; simp [List.getD_eq_getElem?_getD, h]
theorem sortI_eq {l s : List Int} (hp : l.Perm s) (hs : s.Pairwise (fun x y => x ≤ y)) : sortI l = s := by
  have tr : ∀ a b c : Int, decide (a ≤ b) = true → decide (b ≤ c) = true → decide (a ≤ c) = true := fun a b c h1 h2 => by simp only [decide_eq_true_eq] at *; omega
  have to : ∀ a b : Int, (decide (a ≤ b) || decide (b ≤ a)) = true := fun a b => by simp only [Bool.or_eq_true, decide_eq_true_eq]; omega
  refine List.Perm.eq_of_pairwise (le := fun a b => decide (a ≤ b) = true) (fun a b _ _ h1 h2 => ?_) (List.pairwise_mergeSort tr to _) (hs.imp fun h => decide_eq_true h) ((List.mergeSort_perm _ _).trans hp)
  simp only [decide_eq_true_eq] at h1 h2; omega
end
end Go.Proofs.Ytdhpalioifjfbaa

namespace Go.Proofs.Ytdhpalioifjfbaa
open Go.Gx Go.RowKit
attribute [local irreducible] wpList wpStill Code.wp Calls

theorem ukeys_ret {m : Nat} (w : World) : Ret Try.prog 51 #[(Value.map (some m))] w (fun v' w' => Below w.heap.size w w' ∧ ∃ b, w.heap.size ≤ b ∧ v' = .func (.func 58) #[] #[ptr b 0] ∧ Bx w' b 69 [.map (some m)]) := by
 have hb := Below.refl w.heap.size w
 refine enter (N := 4) Try.func51 rfl rfl (by simp) fun a hN hd hA => ?_
 have c : a.tmps.getD 0 undef = (Value.map (some m)) := hA 0 (by simp)
 clear hA
 refine zF fun _ a => zH (op_box (cs := [(Value.map (some m))]) (zC hN rfl c) rfl ?_)
 intro f c h g e d
 obtain ⟨hb, _⟩ := yE hb d
 refine zD rfl (zB (a _ _ (zF fun _ a => zH (op_mkfn (cv := [(ptr c 0)]) ⟨(zA hN rfl), trivial⟩ (zD (zA hN rfl) (zB (a _ _ (wp_ret (ret1 rfl hd (zA hN rfl) ⟨_, rfl, ?_⟩)))))))))
 exact ⟨hb, c, by omega, rfl, e⟩

theorem HIDs_m {base k pm mm : Nat} {P : PM} {ps : List Nat} {M : AM} {nx : Int} {F0 : Nat → Prop} {w : World} (hbase : base ≤ w.heap.size) (hk : Bx w k 71 [.map (some pm), .int .i64 nx, .map (some mm)]) (hA : PgAll w base P ps F0) (hPm : MapC (.int .i64) pv w pm (esP P ps)) (hMm : MapC (.int .u64) plv w mm M) (hne : pm ≠ mm) (hwf : ∀ p ∈ M, (Lit.int .u64 p.1).wf = true) (hn : M.length ≤ 12)  : Ret Try.prog 35 #[(ptr k 0)] w (fun v' w' => Below w.heap.size w w' ∧ Own w' w.heap.size 57 1 v' (sortI (M.map Prod.fst)).length ((sortI (M.map Prod.fst)).map (Value.int .u64))) := by
 have hb := Below.refl w.heap.size w
 refine enter (N := 11) Try.func35 rfl rfl (by simp) fun a hN hd hA => ?_
 have b : a.tmps.getD 0 undef = (ptr k 0) := hA 0 (by simp)
 clear hA
 refine zF fun _ a => zH (zD rfl (zB (a _ _ (zF fun _ a => zF fun _ c => zH (zG (zC hN rfl b) (op_peq_some ptrt53 (zA hN rfl) rfl (zB ?_)))))))
 refine c _ _ (wp_cond_false (zA hN rfl) (wp_skip (a _ _ (zF fun _ a => zH (zG (zC hN rfl b) (op_nil (zA hN rfl) (zM fld71_2 (zA hN rfl) (zN one69 (zA hN rfl) (hk.cell rfl) (zj ok51 (ukeys_ret _) ⟨(zA hN rfl), trivial⟩ ?_)))))))))
 rintro _ e ⟨b, d, f, rfl, c⟩
 have b := zQ b
 obtain ⟨hb, _⟩ := yE hb b
 have hMm := hMm.keep0 b
 refine zj ok50 (sortedU12_ret hMm hwf hn c) ⟨(zA hN rfl), trivial⟩ ?_
 rintro d e ⟨c, b⟩
 have c := zQ c
 obtain ⟨hb, _⟩ := yE hb c
 have b := b.mono (base' := w.heap.size) zx
 refine zD (zA hN rfl) (zB (a _ _ (wp_ret (ret1 rfl hd (zA hN rfl) ⟨_, rfl, ?_⟩))))
 exact ⟨hb, b⟩

theorem hIDs_few {base k m : Nat} {R : List (Int × By)} {F : Nat → Prop} {w : World} (h : HeapR w base k R m F) (hbase : base ≤ w.heap.size) (hwf : ∀ p ∈ R, (Lit.int .u64 p.1).wf = true) (hne : R ≠ []) (hn : R.length ≤ 12) :
    Ret Try.prog 35 #[ptr k 0] w (fun v' w' => Below w.heap.size w w' ∧ Own w' w.heap.size 57 1 v' (sortI (R.map Prod.fst)).length ((sortI (R.map Prod.fst)).map (Value.int .u64))) := by
  obtain ⟨P, nx, M, ⟨v1, v2, ps, F0, hk, hx, hA, hMs, hF⟩, hI, hn0, hnm, hMl, rfl⟩ := h
  rw [recs_keys]
  rcases hMs with ⟨rfl, rfl, rfl, rfl⟩ | ⟨pm, mm, rfl, rfl, hb1, hb2, hne2, h1, h2⟩
  · exact absurd rfl hne
  · exact HIDs_m hbase hx hA h1 h2 hne2 (fun p hp => hwf (p.1, gH P p.2) (List.mem_map.2 ⟨p, hp, rfl⟩)) (by rw [recs_len] at hn; exact hn)

theorem begun14_ret (w : World) : Ret Try.prog 26 #[] w (fun v' w' => Below w.heap.size w w' ∧ v' = .bool true) := by
 have hb := Below.refl w.heap.size w
 refine enter (N := 52) Try.func26 rfl rfl (by simp) fun a hN hd hA => ?_
 clear hA
 refine zF fun _ a => ?_
 refine zH (zD rfl (zB (a _ _ (zF fun _ a => zH (ze (vs := []) ok27 trivial (hNew_ret _) ?_)))))
 rintro _ h ⟨f, d, g, rfl, c⟩
 have l : ∀ x, g x → w.heap.size ≤ x := fun x hx => (c.lt x hx).1
 have f := zQ f
 obtain ⟨hb, _⟩ := yE hb f
 have c : HeapR h w.heap.size d ([] : List (Int × By)) 0 g := c.mono zx
 refine zD (zA hN rfl) (zB (a _ _ (zF fun _ a => zH (zG (zA hN rfl) (op_bslice (e := 5) (pv := [(0, (.int .u8 1))]) (cs := [(.int .u8 1)]) ⟨rfl, rfl, trivial⟩ zy ?_)))))
 intro m h o q f l
 have o : ¬ g h := fun hf => by have := (c.lt _ hf).2; omega
 obtain ⟨hb, _⟩ := yE hb l
 have c := c.kz l
 have g : RdC m h (h + 1) 1 (.slice (some ⟨h, 0, none⟩) 1 1) ([1] : By).length (([1] : By).map u8v) := (RdC.ofBx (sz := 1) (n := 1) f rfl zz)
 refine ze (vs := [(ptr d 0), (.int .u64 5), (.slice (some ⟨h, 0, none⟩) 1 1)]) ok28 ⟨(zA hN rfl), ⟨rfl, ⟨(zA hN rfl), trivial⟩⟩⟩ (hPut_good (r := [1]) 5 zz c zx zx g (fun x hx => Nat.lt_or_gt_of_ne (fun e => o (e ▸ hx))) f.lt) ?_
 rintro _ s ⟨m, rfl, l, g, q⟩
 have t := f.lt
 have u := c
 have := m.size
 have hb := below_stepG hb m hb.size (fun k hk => (u.lt k hk).1)
 have c : ¬ l h := ne_stepF q t o
 have g : HeapR s w.heap.size d ([(5, [1])] : List (Int × By)) 1 l := g
 refine zD (zA hN rfl) (zB (a _ _ (zF fun _ a => zH (zG (zA hN rfl) (op_bslice (e := 5) (pv := [(0, (.int .u8 2)), (1, (.int .u8 2))]) (cs := [(.int .u8 2), (.int .u8 2)]) ⟨rfl, rfl, ⟨rfl, rfl, trivial⟩⟩ zy ?_)))))
 intro t q y u h s
 have u : ¬ l q := fun hf => by have := (g.lt _ hf).2; omega
 obtain ⟨hb, _⟩ := yE hb s
 have f := (f.keepG m o).keep0 s
 have g := g.kz s
 have l : RdC t q (q + 1) 1 (.slice (some ⟨q, 0, none⟩) 2 2) ([2, 2] : By).length (([2, 2] : By).map u8v) := (RdC.ofBx (sz := 1) (n := 2) h rfl zz)
 refine ze (vs := [(ptr d 0), (.int .u64 3), (.slice (some ⟨q, 0, none⟩) 2 2)]) ok28 ⟨(zA hN rfl), ⟨rfl, ⟨(zA hN rfl), trivial⟩⟩⟩ (hPut_good (r := [2, 2]) 3 zz g zx zx l (fun x hx => Nat.lt_or_gt_of_ne (fun e => u (e ▸ hx))) h.lt) ?_
 rintro _ q ⟨m, rfl, o, l, s⟩
 have s := f.lt
 have s := h.lt
 have s := g
 have := m.size
 have hb := below_stepG hb m hb.size (fun k hk => (s.lt k hk).1)
 have l : HeapR q w.heap.size d ([(5, [1]), (3, [2, 2])] : List (Int × By)) 2 o := l
 refine zD (zA hN rfl) (zB (a _ _ (zF fun _ a => zH (zG (zA hN rfl) (ze (vs := [(ptr d 0)]) ok35 ⟨(zA hN rfl), trivial⟩ (hIDs_few l zx (fun p hp => by simp only [List.mem_cons, List.mem_nil_iff, or_false] at hp; rcases hp with rfl | rfl <;> decide) zz zz) ?_)))))
 rintro s t ⟨q, g⟩
 have t : Dj o (Bl s) := Dj.fresh (fun k hk => (l.lt k hk).2) (fun k hk => (g.lt k hk).1)
 have q := zQ q
 obtain ⟨hb, _⟩ := yE hb q
 have f := (f.keepG m c).keep0 q
 have h := (h.keepG m u).keep0 q
 have l := l.kz q
 have c : (sortI (([(5, [1]), (3, [2, 2])] : List (Int × By)).map Prod.fst)) = ([3, 5] : List Int) := sortI_eq zz zz
 rw [c] at g
 have g := g.mono (base' := w.heap.size) zx
 refine zD (zA hN rfl) (zB (a _ _ (zF fun _ a => zH (zG (zA hN rfl) (ze (vs := [(ptr d 0), (.int .u64 3)]) ok30 ⟨(zA hN rfl), ⟨rfl, trivial⟩⟩ (hGet_hit (id := 3) (b := [2, 2]) l zx zz) ?_)))))
 rintro _ y ⟨m, u, s, rfl, c, o, q⟩
 have q := f.lt
 have f := h.lt
 have f := g.lt
 have f := c.mono (base' := w.heap.size) zx
 have h := l
 have := m.size
 have g := g.keepG m t.symm
 have hb := below_stepG hb m hb.size (fun k hk => (h.lt k hk).1)
 have c := f
 refine zG (zA hN rfl) ?_
 refine zW (zA hN rfl) rfl (zW (zA hN rfl) rfl (zD (zA hN rfl) (zD (zA hN rfl) (zB (a _ _ (zF fun _ a => zH (zG (zA hN rfl) (op_bin (v := .bool true) (zA hN rfl) rfl (by rw [binOp_eql]; rfl) (zG (zA hN rfl) (zS (j := 2) (dj := 23) (b := true) rfl rfl rfl (zA hN rfl) ?_))))))))))
 refine zG (zA hN rfl) (zS (j := 2) (dj := 23) (b := true) rfl rfl rfl (zA hN rfl) (op_bin (v := .bool true) (zA hN rfl) rfl (by rw [binOp_eql]; rfl) (zc (zA hN rfl) (zA hN rfl) (zG (zA hN rfl) (zS (j := 6) (dj := 27) (b := true) rfl rfl rfl (zA hN rfl) (zG (zA hN rfl) (zS (j := 6) (dj := 27) (b := true) rfl rfl rfl (zA hN rfl) (op_len_rd Try.underlying62 (zA hN rfl) g.rdw (zS (j := 6) (dj := 27) (b := true) rfl rfl rfl (zA hN rfl) (op_eql (zA hN rfl) rfl (fun f => ?_) (fun f => ?_)))))))))))
 ·
  refine zc (zA hN rfl) (zA hN rfl) (zG (zA hN rfl) (zS (j := 11) (dj := 32) (b := true) rfl rfl rfl (zA hN rfl) (zG (zA hN rfl) (zS (j := 11) (dj := 32) (b := true) rfl rfl rfl (zA hN rfl) (zh slt62 (zA hN rfl) g.rdw rfl zx zx ?_)))))
  intro m l q h g
  refine zS (j := 11) (dj := 32) (b := true) rfl rfl rfl (zA hN rfl) (zN (v := (Value.int .u64 (([3, 5] : List Int).getD 0 0))) one57 (zA hN rfl) (by have := g 0 (.int .u64 (([3, 5] : List Int).getD 0 0)) zz (el_i (.int .u64) (i := 0) zx zx); simpa using this) (zS (j := 11) (dj := 32) (b := true) rfl rfl rfl (zA hN rfl) (op_eql (zA hN rfl) rfl (fun h => ?_) (fun h => ?_))))
  ·
   refine zc (zA hN rfl) (zA hN rfl) (zG (zA hN rfl) (zS (j := 17) (dj := 38) (b := true) rfl rfl rfl (zA hN rfl) ?_))
   refine zG (zA hN rfl) (zS (j := 17) (dj := 38) (b := true) rfl rfl rfl (zA hN rfl) (op_bin (v := .bool true) (zA hN rfl) rfl (by rw [binOp_eql]; rfl) (zc (zA hN rfl) (zA hN rfl) (zG (zA hN rfl) (zS (j := 21) (dj := 42) (b := true) rfl rfl rfl (zA hN rfl) (zG (zA hN rfl) (zS (j := 21) (dj := 42) (b := true) rfl rfl rfl (zA hN rfl) (op_len_rd Try.underlying22 (zA hN rfl) c.rdw (zS (j := 21) (dj := 42) (b := true) rfl rfl rfl (zA hN rfl) (op_eql (zA hN rfl) rfl (fun g => ?_) (fun g => ?_)))))))))))
   ·
    refine zc (zA hN rfl) (zA hN rfl) (zG (zA hN rfl) (zS (j := 26) (dj := 47) (b := true) rfl rfl rfl (zA hN rfl) (zG (zA hN rfl) (zS (j := 26) (dj := 47) (b := true) rfl rfl rfl (zA hN rfl) (ze (vs := [(ptr d 0)]) ok31 ⟨(zA hN rfl), trivial⟩ (hLen_ret o zx) ?_)))))
    rintro _ d ⟨c, rfl⟩
    have c := zQ c
    obtain ⟨hb, _⟩ := yE hb c
    refine zS (j := 26) (dj := 47) (b := true) rfl rfl rfl (zA hN rfl) (op_eql (zA hN rfl) rfl (fun c => ?_) (fun c => ?_))
    ·
     refine zc (zA hN rfl) (zA hN rfl) (zD (zA hN rfl) (zB (a _ _ (wp_ret (ret1 rfl hd (zA hN rfl) ⟨_, rfl, ?_⟩)))))
     exact ⟨hb, rfl⟩
    exact absurd zz c
   exact absurd zz g
  exact absurd zz h
 exact absurd zz f

end Go.Proofs.Ytdhpalioifjfbaa

namespace Go.Gx
open Go.RowKit
section
variable {P : Program} {Q : Exit → Act → World → Prop} {a : Act} {w : World} {l : List (Nat × Value)} {ops : Array Oper} {rest : List Oper}
variable {d ty xt t : Nat} {p : String} {af : Array Edge} {x y : Operand} {k : IntKind} {b c : Nat}
theorem op_index_arr1 {i : Int} {j : Nat} (hT : arrT P xt = some (c, 1)) (hx : (putsL a l).eval x = ptr b 0) (hy : (putsL a l).eval y = .int k i) (hj : i = (j : Int)) (h1 : j < c) (h : wpList P ops Q rest (putsL a ((d, ptr b j) :: l)) w) :
    wpList P ops Q (⟨some d, .indexAddr xt x y, ty, p, af, none⟩ :: rest) (putsL a l) w :=
  op_index_arr hT hx hy hj h1 (by rw [Nat.zero_add, Nat.mul_one]; exact h)
theorem row_at {α : Type} {f : α → Value} {A : List α} {d : α} {j : Nat} (h : j < A.length) : (A.map f)[j]? = some (f (A.getD j d)) := by
  simp [List.getD_eq_getElem?_getD, h]
theorem row_set {α : Type} {f : α → Value} {A : List α} {j : Nat} {x : α} (h : Bx w b t ((A.map f).set j (f x))) : Bx w b t ((A.set j x).map f) := by
  rw [List.map_set]; exact h
end
end Go.Gx
