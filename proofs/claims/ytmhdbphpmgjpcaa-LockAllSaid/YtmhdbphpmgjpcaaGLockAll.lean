/- The statement LockAllSaid: for every input the law answers true, and what it was given reads as it did. -/
import Derived.Test.YtmhdbphpmgjpcaaRows
import Derived.Test.YtmhdbphpmgjpcaaB5
import Derived.WalkKit
import Derived.ProofKit
import Derived.OpenShut
import Derived.ShutString
import Derived.ChangeOld
import Derived.Below
import Derived.Carry
namespace Go.Proofs.Ytmhdbphpmgjpcaa.lockAllDone
open Go.ChangeShapes Go.WideShapes Go.ChangeAt Go.RowKit Go.Gx
set_option linter.unusedVariables false
theorem own : ownKnob Try.prog.godebug = none := by kernel_rfl
theorem laidOut : laidOutB Try.prog = true := by kernel_rfl

set_option maxRecDepth 100000 in
theorem lifted (os : Os) (started : os.Started) (H : Type) (enc : TypeId × Value → H) :
    ReturnsInHanded {} Try.checked os 14 .any (Rows.lockAllSpec.pre6 enc Try.prog Try.f14 Rows.lockAllRow.domain false) (Rows.lockAllSpec.post enc Try.prog Try.f14 false true false false) := by
  refine returnsInHanded_of_change (C := Try.checked) own started (by kernel_rfl) Try.func14
    (ChangeSpec.witness6 (enc := enc) (C := Try.checked) false ⟨#[], #[.slice none 0 0], []⟩ 8 (by kernel_rfl) (by kernel_rfl) (by kernel_rfl) (by kernel_rfl)) ?_
  intro W base args ds gs before hval0 hW hcnd _
  have hval : ∀ (j : Nat) t v, Try.f14.params[j]? = some t → args[j]? = some v → Value.okWide Try.prog W .any base t v := hval0
  have hW' := hW
  obtain ⟨p, q, hA0, hV, rfl, hfz, hnd⟩ := hW
  have hA : DataW.TrodAll enc Try.prog W 0 (fun _ => true) true Try.f14.params.toList args.toList ds p := hA0
  rw [Try.params14] at hA hval
  obtain ⟨v0, vs0, d0, ds0, p0, q0, hargs, rfl, rfl, h0, r0⟩ := trodAll_cons hA
  obtain ⟨rfl, rfl, rfl⟩ := trodAll_nil r0
  obtain rfl : args = #[v0] := by cases args; simp_all
  obtain ⟨rfl, rfl⟩ := trodVars_none hV
  have k0 := h0
  have lt0 : ∀ x ∈ p0, x.block < W.heap.size := by obtain ⟨m, hm⟩ := k0; exact DataW.trod_lt m _ _ _ hm
  obtain ⟨m0, e0⟩ := h0
  obtain ⟨a0, l0, s0, rfl⟩ := okWide_slice Try.underlying99 (hval 0 99 v0 rfl rfl)
  obtain ⟨⟨u0, b0⟩, c0, w0⟩ := dec99 _ _ _ e0
  simp [Value.cells] at c0
  subst c0
  clear hA0 hval0
  refine Calls.mono (LockAll_ret b0 _ W (rd_le w0.1) (fun x hx => rd_le (w0.2 x hx).2.2.1) w0.1 (fun x9 h9 => by obtain ⟨o, ho, rfl⟩ := List.mem_map.1 h9; exact (w0.2 o ho).2.2.1) (fun x9 h9 => by obtain ⟨o, ho, rfl⟩ := List.mem_map.1 h9; exact (w0.2 o ho).2.2.2.1.1.cast rfl (flat_one _ _)) (fun o ho => (w0.2 o ho).2.1)) fun e W' ⟨v', he, bel, hv'⟩ => ?_
  subst hv'; subst he
  exact ⟨_, rfl, _, _, _, [], _, [], hW', trodAll_mk1 (shut_bool Try.underlying4 _), (trodAll_cons_mk (Below.trod laidOut (by kernel_rfl) (of_decide_eq_true (by kernel_rfl)) k0 bel lt0) trodAll_mk0), rfl, bel.frame _, fun h => by cases h⟩
theorem over : Rows.lockAllRow.holds Try.pinned (OpenSpec.ofChange Rows.lockAllSpec) :=
  OpenClaim.holds_of_wide 14 Try.f14 rfl rfl rfl rfl rfl rfl rfl ⟨rfl, rfl, rfl, rfl, rfl⟩ rfl rfl rfl rfl rfl (by kernel_rfl) Try.func14 (by kernel_rfl)
    (of_decide_eq_true (by kernel_rfl)) (by unfold Func.isWrapper; first | (rw [if_pos (by decide +kernel)]; kernel_rfl) | (rw [if_neg (by decide +kernel)]; exact ⟨rfl, rfl⟩))
    (fun os started H enc _ => lifted os started H enc)
theorem proved : Rows.LockAllSaid := over
end Go.Proofs.Ytmhdbphpmgjpcaa.lockAllDone
