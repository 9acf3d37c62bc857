/- The statement KernAllSaid: for every input the law answers true, and what it was given reads as it did. -/
import Derived.Test.YtmhdbphpmgjpcaaRows
import Derived.Test.YtmhdbphpmgjpcaaB7
import Derived.WalkKit
import Derived.ProofKit
import Derived.OpenShut
import Derived.ShutString
import Derived.ChangeOld
import Derived.Below
import Derived.Carry
namespace Go.Proofs.Ytmhdbphpmgjpcaa.kernAllDone
open Go.ChangeShapes Go.WideShapes Go.ChangeAt Go.RowKit Go.Gx
set_option linter.unusedVariables false
theorem own : ownKnob Try.prog.godebug = none := by kernel_rfl
theorem laidOut : laidOutB Try.prog = true := by kernel_rfl

set_option maxRecDepth 100000 in
theorem lifted (os : Os) (started : os.Started) (H : Type) (enc : TypeId × Value → H) :
    ReturnsInHanded {} Try.checked os 8 .any (Rows.kernAllSpec.pre6 enc Try.prog Try.f8 Rows.kernAllRow.domain false) (Rows.kernAllSpec.post enc Try.prog Try.f8 false true false false) := by
  refine returnsInHanded_of_change (C := Try.checked) own started (by kernel_rfl) Try.func8
    (ChangeSpec.witness6 (enc := enc) (C := Try.checked) false ⟨#[], #[.agg #[.slice none 0 0, .int .i64 0], .slice none 0 0], []⟩ 8 (by kernel_rfl) (by kernel_rfl) (by kernel_rfl) (by kernel_rfl)) ?_
  intro W base args ds gs before hval0 hW hcnd _
  have hval : ∀ (j : Nat) t v, Try.f8.params[j]? = some t → args[j]? = some v → Value.okWide Try.prog W .any base t v := hval0
  have hW' := hW
  obtain ⟨p, q, hA0, hV, rfl, hfz, hnd⟩ := hW
  have hA : DataW.TrodAll enc Try.prog W 0 (fun _ => true) true Try.f8.params.toList args.toList ds p := hA0
  rw [Try.params8] at hA hval
  obtain ⟨v0, vs0, d0, ds0, p0, q0, hargs, rfl, rfl, h0, r0⟩ := trodAll_cons hA
  obtain ⟨v1, vs1, d1, ds1, p1, q1, rfl, rfl, rfl, h1, r1⟩ := trodAll_cons r0
  obtain ⟨rfl, rfl, rfl⟩ := trodAll_nil r1
  obtain rfl : args = #[v0, v1] := by cases args; simp_all
  obtain ⟨rfl, rfl⟩ := trodVars_none hV
  have k0 := h0
  have lt0 : ∀ x ∈ p0, x.block < W.heap.size := by obtain ⟨m, hm⟩ := k0; exact DataW.trod_lt m _ _ _ hm
  obtain ⟨m0, e0⟩ := h0
  obtain ⟨a0, rfl, _⟩ := okWide_struct Try.underlying59 (hval 0 59 v0 rfl rfl)
  obtain ⟨b0, c0, w0⟩ := dec59 _ _ _ e0
  simp only [Value.cells] at c0
  obtain rfl : a0 = ((fun p => [p.1.1, .int .i64 p.2]) b0).toArray := by cases a0; simpa using c0
  have k1 := h1
  have lt1 : ∀ x ∈ p1, x.block < W.heap.size := by obtain ⟨m, hm⟩ := k1; exact DataW.trod_lt m _ _ _ hm
  obtain ⟨m1, e1⟩ := h1
  obtain ⟨a1, l1, s1, rfl⟩ := okWide_slice Try.underlying82 (hval 1 82 v1 rfl rfl)
  obtain ⟨⟨u1, b1⟩, c1, w1⟩ := dec82 _ _ _ e1
  simp [Value.cells] at c1
  subst c1
  clear hA0 hval0
  refine Calls.mono (KernAll_ret b0.1.2 b0.2 _ b1 _ W (rd_le w0.1.1) (fun x hx => ⟨rd_le (w0.1.2 x hx).1, rd_le (w0.1.2 x hx).2⟩) w0.1.1 (fun x hx => by obtain ⟨c, hc, rfl⟩ := List.mem_map.1 hx; exact (w0.1.2 c hc).1) (fun x hx => by obtain ⟨c, hc, rfl⟩ := List.mem_map.1 hx; exact (w0.1.2 c hc).2) (rd_le w1.1) (fun o ho => ⟨(w1.2 o ho).2.2.1, rd_le (w1.2 o ho).2.2.2⟩) (fun o ho => ⟨by simpa [oK, Lit.wf, IntKind.min, IntKind.max, IntKind.signed, IntKind.bits] using (w1.2 o ho).1, by simpa [oS, Lit.wf, IntKind.min, IntKind.max, IntKind.signed, IntKind.bits] using (w1.2 o ho).2.1⟩) w1.1 (fun o ho => (w1.2 o ho).2.2.2)) fun e W' ⟨v', he, bel, hv'⟩ => ?_
  subst hv'; subst he
  exact ⟨_, rfl, _, _, _, [], _, [], hW', trodAll_mk1 (shut_bool Try.underlying4 _), (trodAll_cons_mk (Below.trod laidOut (by kernel_rfl) (of_decide_eq_true (by kernel_rfl)) k0 bel lt0) (trodAll_cons_mk (Below.trod laidOut (by kernel_rfl) (of_decide_eq_true (by kernel_rfl)) k1 bel lt1) trodAll_mk0)), rfl, bel.frame _, fun h => by cases h⟩
theorem over : Rows.kernAllRow.holds Try.pinned (OpenSpec.ofChange Rows.kernAllSpec) :=
  OpenClaim.holds_of_wide 8 Try.f8 rfl rfl rfl rfl rfl rfl rfl ⟨rfl, rfl, rfl, rfl, rfl⟩ rfl rfl rfl rfl rfl (by kernel_rfl) Try.func8 (by kernel_rfl)
    (of_decide_eq_true (by kernel_rfl)) (by unfold Func.isWrapper; first | (rw [if_pos (by decide +kernel)]; kernel_rfl) | (rw [if_neg (by decide +kernel)]; exact ⟨rfl, rfl⟩))
    (fun os started H enc _ => lifted os started H enc)
theorem proved : Rows.KernAllSaid := over
end Go.Proofs.Ytmhdbphpmgjpcaa.kernAllDone
