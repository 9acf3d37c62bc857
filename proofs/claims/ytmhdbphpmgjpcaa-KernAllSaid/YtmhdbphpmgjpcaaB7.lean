/- What the arguments of the laws are, told by their types. -/
import Derived.Test.YtmhdbphpmgjpcaaProg
import Derived.KernelRfl
import Derived.Test.YtmhdbphpmgjpcaaB6
set_option linter.unusedVariables false
set_option linter.unusedSimpArgs false

namespace Go.Proofs.Ytmhdbphpmgjpcaa
open Go.Gx Go.RowKit
theorem rd_le {w : World} {L B sz n : Nat} {v : Value} {cs : List Value} (h : RdC w L B sz v n cs) : n ≤ 9223372036854775807 := by obtain ⟨_, _, _, _, hq, hm, _⟩ := h; exact Nat.le_trans hq hm
theorem cells46 : Try.prog.cellsOf 46 = 1 := by kernel_rfl
theorem flat_u16v (l : List UInt16) : l.flatMap (fun c => [u16v c]) = l.map u16v := by induction l with | nil => rfl | cons c l ih => simp [ih]
theorem dec54 {H : Type} {enc : TypeId × Value → H} {w : World} {base : Nat} {spare : Nat → Bool} {held : Bool} : Dec enc Try.prog w base spare held 54 (fun p : Value × List UInt16 => [p.1]) (fun p => RdC w 0 w.heap.size 1 p.1 p.2.length (p.2.map u16v)) :=
  (Dec.slice Try.underlying54 (by rw [cells46]; decide) (Dec.u16 Try.underlying46) (fun _ _ => by rw [cells46]; rfl)).map fun p hp => ⟨p, rfl, by have hq := hp.1; rwa [cells46, flat_u16v] at hq⟩
theorem cells56 : Try.prog.cellsOf 56 = 2 := by kernel_rfl
theorem cells54 : Try.prog.cellsOf 54 = 1 := by kernel_rfl
theorem len_2 {l : List Value} (h : l.length = 2) : ∃ c0 c1, l = [c0, c1] := by match l, h with | [c0, c1], _ => exact ⟨c0, c1, rfl⟩
theorem dec56 {H : Type} {enc : TypeId × Value → H} {w : World} {base : Nat} {spare : Nat → Bool} {held : Bool} : Dec enc Try.prog w base spare held 56 (fun p : (Value × List UInt16) × (Value × List UInt16) => [p.1.1, p.2.1]) (fun p => (RdC w 0 w.heap.size 1 p.1.1 p.1.2.length (p.1.2.map u16v)) ∧ (RdC w 0 w.heap.size 1 p.2.1 p.2.2.length (p.2.2.map u16v))) := by
  intro fuel cs x h
  obtain ⟨xs, n, _, _, hl, hlen, hf⟩ := DataW.trod_struct Try.underlying56 h
  rw [cells56] at hl
  obtain ⟨c0, c1, rfl⟩ := len_2 hl
  have hl4 : xs.length = 2 := hlen
  have g0 : DataW.trod enc Try.prog w base spare held n 54 (([c0, c1].drop 0).take (Try.prog.cellsOf 54)) = some xs[0] := (hf 0 _ rfl).trans (List.getElem?_eq_getElem (by omega))
  have g1 : DataW.trod enc Try.prog w base spare held n 54 (([c0, c1].drop 1).take (Try.prog.cellsOf 54)) = some xs[1] := (hf 1 _ rfl).trans (List.getElem?_eq_getElem (by omega))
  obtain ⟨b0, e0, w0⟩ := dec54 _ _ _ g0
  obtain ⟨b1, e1, w1⟩ := dec54 _ _ _ g1
  simp only [cells54, List.drop_zero, List.drop_succ_cons, List.take_succ_cons, List.take_zero, List.cons.injEq, and_true] at e0 e1
  clear hf h g0 g1
  obtain rfl := e0
  obtain rfl := e1
  exact ⟨⟨b0, b1⟩, rfl, ⟨w0, w1⟩⟩
theorem dec57 {H : Type} {enc : TypeId × Value → H} {w : World} {base : Nat} {spare : Nat → Bool} {held : Bool} : Dec enc Try.prog w base spare held 57 (fun p : Value × List ((Value × List UInt16) × (Value × List UInt16)) => [p.1]) (fun p => RdC w 0 w.heap.size 2 p.1 p.2.length (p.2.flatMap (fun (x9 : (Value × List UInt16) × (Value × List UInt16)) => [x9.1.1, x9.2.1])) ∧ ∀ x ∈ p.2, ((RdC w 0 w.heap.size 1 x.1.1 x.1.2.length (x.1.2.map u16v)) ∧ (RdC w 0 w.heap.size 1 x.2.1 x.2.2.length (x.2.2.map u16v)))) :=
  (Dec.slice Try.underlying57 (by rw [cells56]; decide) dec56 (fun _ _ => by rw [cells56]; rfl)).map fun p hp => ⟨p, rfl, by have hq := hp.1; rw [cells56] at hq; exact hq, hp.2⟩
theorem cells59 : Try.prog.cellsOf 59 = 2 := by kernel_rfl
theorem cells57 : Try.prog.cellsOf 57 = 1 := by kernel_rfl
theorem cells3 : Try.prog.cellsOf 3 = 1 := by kernel_rfl
theorem dec59 {H : Type} {enc : TypeId × Value → H} {w : World} {base : Nat} {spare : Nat → Bool} {held : Bool} : Dec enc Try.prog w base spare held 59 (fun p : (Value × List ((Value × List UInt16) × (Value × List UInt16))) × (Int) => [p.1.1, .int .i64 p.2]) (fun p => (RdC w 0 w.heap.size 2 p.1.1 p.1.2.length (p.1.2.flatMap (fun (x9 : (Value × List UInt16) × (Value × List UInt16)) => [x9.1.1, x9.2.1])) ∧ ∀ z57 ∈ p.1.2, ((RdC w 0 w.heap.size 1 z57.1.1 z57.1.2.length (z57.1.2.map u16v)) ∧ (RdC w 0 w.heap.size 1 z57.2.1 z57.2.2.length (z57.2.2.map u16v)))) ∧ (Lit.int .i64 p.2).wf = true) := by
  intro fuel cs x h
  obtain ⟨xs, n, _, _, hl, hlen, hf⟩ := DataW.trod_struct Try.underlying59 h
  rw [cells59] at hl
  obtain ⟨c0, c1, rfl⟩ := len_2 hl
  have hl4 : xs.length = 2 := hlen
  have g0 : DataW.trod enc Try.prog w base spare held n 57 (([c0, c1].drop 0).take (Try.prog.cellsOf 57)) = some xs[0] := (hf 0 _ rfl).trans (List.getElem?_eq_getElem (by omega))
  have g1 : DataW.trod enc Try.prog w base spare held n 3 (([c0, c1].drop 1).take (Try.prog.cellsOf 3)) = some xs[1] := (hf 1 _ rfl).trans (List.getElem?_eq_getElem (by omega))
  obtain ⟨b0, e0, w0⟩ := dec57 _ _ _ g0
  obtain ⟨b1, e1, w1⟩ := (Dec.int Try.underlying3) _ _ _ g1
  simp only [cells57, cells3, List.drop_zero, List.drop_succ_cons, List.take_succ_cons, List.take_zero, List.cons.injEq, and_true] at e0 e1
  clear hf h g0 g1
  obtain rfl := e0
  obtain rfl := e1
  exact ⟨⟨b0, b1⟩, rfl, ⟨w0, w1⟩⟩
theorem dec45 {H : Type} {enc : TypeId × Value → H} {w : World} {base : Nat} {spare : Nat → Bool} {held : Bool} : Dec enc Try.prog w base spare held 45 (fun p : Value × List UInt16 => [p.1]) (fun p => RdC w 0 w.heap.size 1 p.1 p.2.length (p.2.map u16v)) :=
  (Dec.slice Try.underlying45 (by rw [cells46]; decide) (Dec.u16 Try.underlying46) (fun _ _ => by rw [cells46]; rfl)).map fun p hp => ⟨p, rfl, by have hq := hp.1; rwa [cells46, flat_u16v] at hq⟩
theorem cells45 : Try.prog.cellsOf 45 = 1 := by kernel_rfl
theorem cells9 : Try.prog.cellsOf 9 = 1 := by kernel_rfl
theorem cells84 : Try.prog.cellsOf 84 = 4 := by kernel_rfl
theorem len_4 {l : List Value} (h : l.length = 4) : ∃ c0 c1 c2 c3, l = [c0, c1, c2, c3] := by match l, h with | [c0, c1, c2, c3], _ => exact ⟨c0, c1, c2, c3, rfl⟩
theorem dec84 {H : Type} {enc : TypeId × Value → H} {w : World} {base : Nat} {spare : Nat → Bool} {held : Bool} : Dec enc Try.prog w base spare held 84 (fun p : (Int) × (Int) × (List UInt8) × (Value × List UInt16) => [.int .i64 p.1, .int .i64 p.2.1, .string (bs p.2.2.1), p.2.2.2.1]) (fun p => (Lit.int .i64 p.1).wf = true ∧ (Lit.int .i64 p.2.1).wf = true ∧ p.2.2.1.length ≤ maxLen ∧ (RdC w 0 w.heap.size 1 p.2.2.2.1 p.2.2.2.2.length (p.2.2.2.2.map u16v))) := by
  intro fuel cs x h
  obtain ⟨xs, n, _, _, hl, hlen, hf⟩ := DataW.trod_struct Try.underlying84 h
  rw [cells84] at hl
  obtain ⟨c0, c1, c2, c3, rfl⟩ := len_4 hl
  have hl4 : xs.length = 4 := hlen
  have g0 : DataW.trod enc Try.prog w base spare held n 3 (([c0, c1, c2, c3].drop 0).take (Try.prog.cellsOf 3)) = some xs[0] := (hf 0 _ rfl).trans (List.getElem?_eq_getElem (by omega))
  have g1 : DataW.trod enc Try.prog w base spare held n 3 (([c0, c1, c2, c3].drop 1).take (Try.prog.cellsOf 3)) = some xs[1] := (hf 1 _ rfl).trans (List.getElem?_eq_getElem (by omega))
  have g2 : DataW.trod enc Try.prog w base spare held n 9 (([c0, c1, c2, c3].drop 2).take (Try.prog.cellsOf 9)) = some xs[2] := (hf 2 _ rfl).trans (List.getElem?_eq_getElem (by omega))
  have g3 : DataW.trod enc Try.prog w base spare held n 45 (([c0, c1, c2, c3].drop 3).take (Try.prog.cellsOf 45)) = some xs[3] := (hf 3 _ rfl).trans (List.getElem?_eq_getElem (by omega))
  obtain ⟨b0, e0, w0⟩ := (Dec.int Try.underlying3) _ _ _ g0
  obtain ⟨b1, e1, w1⟩ := (Dec.int Try.underlying3) _ _ _ g1
  obtain ⟨b2, e2, w2⟩ := (Dec.str Try.underlying9) _ _ _ g2
  obtain ⟨b3, e3, w3⟩ := dec45 _ _ _ g3
  simp only [cells3, cells9, cells45, List.drop_zero, List.drop_succ_cons, List.take_succ_cons, List.take_zero, List.cons.injEq, and_true] at e0 e1 e2 e3
  clear hf h g0 g1 g2 g3
  obtain rfl := e0
  obtain rfl := e1
  obtain rfl := e2
  obtain rfl := e3
  exact ⟨⟨b0, b1, b2, b3⟩, rfl, ⟨w0, w1, w2, w3⟩⟩
theorem dec82 {H : Type} {enc : TypeId × Value → H} {w : World} {base : Nat} {spare : Nat → Bool} {held : Bool} : Dec enc Try.prog w base spare held 82 (fun p : Value × List ((Int) × (Int) × (List UInt8) × (Value × List UInt16)) => [p.1]) (fun p => RdC w 0 w.heap.size 4 p.1 p.2.length (p.2.flatMap (fun (x9 : (Int) × (Int) × (List UInt8) × (Value × List UInt16)) => [.int .i64 x9.1, .int .i64 x9.2.1, .string (bs x9.2.2.1), x9.2.2.2.1])) ∧ ∀ x ∈ p.2, ((Lit.int .i64 x.1).wf = true ∧ (Lit.int .i64 x.2.1).wf = true ∧ x.2.2.1.length ≤ maxLen ∧ (RdC w 0 w.heap.size 1 x.2.2.2.1 x.2.2.2.2.length (x.2.2.2.2.map u16v)))) :=
  (Dec.slice Try.underlying82 (by rw [cells84]; decide) dec84 (fun _ _ => by rw [cells84]; rfl)).map fun p hp => ⟨p, rfl, by have hq := hp.1; rw [cells84] at hq; exact hq, hp.2⟩
end Go.Proofs.Ytmhdbphpmgjpcaa
