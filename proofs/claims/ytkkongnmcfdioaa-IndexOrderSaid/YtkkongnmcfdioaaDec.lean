/- What the arguments of the laws are, told by their types. -/
import Derived.Test.YtkkongnmcfdioaaProg
import Derived.Test.YtkkongnmcfdioaaLib15
import Derived.Test.YtkkongnmcfdioaaVPlain
import Derived.Test.YtkkongnmcfdioaaRSpec
import Derived.KernelRfl
namespace Go.Proofs.Ytkkongnmcfdioaa
open Go.Gx Go.RowKit
theorem flat_u8 (l : List UInt8) : l.flatMap (fun c => [u8v c]) = l.map u8v := by induction l with | nil => rfl | cons c l ih => simp [ih]
theorem cells5 : Try.prog.cellsOf 5 = 1 := by kernel_rfl
theorem rd_le {w : World} {L B sz n : Nat} {v : Value} {cs : List Value} (h : RdC w L B sz v n cs) : n ≤ 9223372036854775807 := by obtain ⟨_, _, _, _, hq, hm, _⟩ := h; exact Nat.le_trans hq hm
theorem decB {H : Type} {enc : TypeId × Value → H} {w : World} {base : Nat} {spare : Nat → Bool} {held : Bool} : Dec enc Try.prog w base spare held 22 (fun p : Value × List UInt8 => [p.1]) (fun p => RdC w 0 w.heap.size 1 p.1 p.2.length (p.2.map u8v)) :=
  (Dec.slice Try.underlying22 (by rw [cells5]; decide) (Dec.u8 Try.underlying5) (fun _ _ => by rw [cells5]; rfl)).map fun p hp => ⟨p, rfl, by have hq := hp.1; rwa [cells5, flat_u8] at hq⟩
theorem cells50 : Try.prog.cellsOf 50 = 3 := by kernel_rfl
theorem cells3 : Try.prog.cellsOf 3 = 1 := by kernel_rfl
theorem cells2 : Try.prog.cellsOf 2 = 1 := by kernel_rfl
theorem cells9 : Try.prog.cellsOf 9 = 1 := by kernel_rfl
theorem three {l : List Value} (h : l.length = 3) : ∃ a b c, l = [a, b, c] := by match l, h with | [a, b, c], _ => exact ⟨a, b, c, rfl⟩
theorem dec50 {H : Type} {enc : TypeId × Value → H} {w : World} {base : Nat} {spare : Nat → Bool} {held : Bool} : Dec enc Try.prog w base spare held 50 (fun x : Vl => [.int .i64 x.k, .int .i64 x.n, .string (bs x.s)]) OkV := by
  intro fuel cs x h
  obtain ⟨xs, n, _, _, hl, hlen, hf⟩ := DataW.trod_struct Try.underlying50 h
  rw [cells50] at hl
  obtain ⟨c0, c1, c2, rfl⟩ := three hl
  have hl3 : xs.length = 3 := hlen
  have g0 : DataW.trod enc Try.prog w base spare held n 3 (([c0, c1, c2].drop 0).take (Try.prog.cellsOf 3)) = some xs[0] := (hf 0 _ rfl).trans (List.getElem?_eq_getElem (by omega))
  have g1 : DataW.trod enc Try.prog w base spare held n 2 (([c0, c1, c2].drop 1).take (Try.prog.cellsOf 2)) = some xs[1] := (hf 1 _ rfl).trans (List.getElem?_eq_getElem (by omega))
  have g2 : DataW.trod enc Try.prog w base spare held n 9 (([c0, c1, c2].drop 2).take (Try.prog.cellsOf 9)) = some xs[2] := (hf 2 _ rfl).trans (List.getElem?_eq_getElem (by omega))
  obtain ⟨k, e0, hk⟩ := Dec.int Try.underlying3 _ _ _ g0
  obtain ⟨m, e1, hm⟩ := Dec.int Try.underlying2 _ _ _ g1
  obtain ⟨s, e2, hs⟩ := Dec.str Try.underlying9 _ _ _ g2
  simp only [cells3, cells2, cells9, List.drop_zero, List.drop_succ_cons, List.take_succ_cons, List.take_zero, List.cons.injEq, and_true] at e0 e1 e2
  clear g0 g1 g2 hf h
  obtain rfl := e0; obtain rfl := e1; obtain rfl := e2
  refine ⟨⟨k, m, s⟩, rfl, ?_, ?_, hs⟩
  · simpa [Lit.wf, IntKind.min, IntKind.max, IntKind.signed, IntKind.bits] using hk
  · simpa [Lit.wf, IntKind.min, IntKind.max, IntKind.signed, IntKind.bits] using hm
theorem dec65 {H : Type} {enc : TypeId × Value → H} {w : World} {base : Nat} {spare : Nat → Bool} {held : Bool} : Dec enc Try.prog w base spare held 65 (fun p : Value × List Vl => [p.1]) (fun p => RdC w 0 w.heap.size 3 p.1 p.2.length (p.2.flatMap cellsV) ∧ ∀ x ∈ p.2, OkV x) :=
  (Dec.slice Try.underlying65 (by rw [cells50]; decide) dec50 (fun _ _ => by rw [cells50]; rfl)).map fun p hp => ⟨p, rfl, by have hq := hp.1; rw [cells50] at hq; exact hq, hp.2⟩
theorem cells46 : Try.prog.cellsOf 46 = 1 := by kernel_rfl
theorem flat_u16 (l : List UInt16) : l.flatMap (fun c => [u16v c]) = l.map u16v := by induction l with | nil => rfl | cons c l ih => simp [ih]
theorem dec75 {H : Type} {enc : TypeId × Value → H} {w : World} {base : Nat} {spare : Nat → Bool} {held : Bool} : Dec enc Try.prog w base spare held 75 (fun p : Value × List UInt16 => [p.1]) (fun p => RdC w 0 w.heap.size 1 p.1 p.2.length (p.2.map u16v)) :=
  (Dec.slice Try.underlying75 (by rw [cells46]; decide) (Dec.u16 Try.underlying46) (fun _ _ => by rw [cells46]; rfl)).map fun p hp => ⟨p, rfl, by have hq := hp.1; rwa [cells46, flat_u16] at hq⟩
end Go.Proofs.Ytkkongnmcfdioaa
