/-
  The row of FnExactDiffBytes: the law returns true whatever comes in, and what comes in reads as it did.
-/
import Derived.Test.YtnidgolbfmbocaaRows
import Derived.Test.YtnidgolbfmbocaaTyp
import Derived.Test.YtnidgolbfmbocaaDataFnExactDiffBytes
import Derived.WalkKit
import Derived.ProofKit
import Derived.OpenShut
import Derived.SizedLaws
namespace Go.Proofs.Ytnidgolbfmbocaa.fnExactDiffBytes
open Go
set_option linter.unusedVariables false
theorem own : ownKnob Try.prog.godebug = none := by kernel_rfl
set_option maxRecDepth 100000 in
theorem lifted (os : Os) (started : os.Started) (H : Type) (enc : TypeId × Value → H) :
    ReturnsInHanded {} Try.checked os 12 .any (Rows.fnExactDiffBytesSpec.pre6 enc Try.prog Try.f12 Rows.fnExactDiffBytesRow.domain false) (Rows.fnExactDiffBytesSpec.post enc Try.prog Try.f12 false true false false) := by
  refine returnsInHanded_of_change_sized (C := Try.checked) own started (by kernel_rfl) Try.func12
    (ChangeSpec.witness6 (enc := enc) (C := Try.checked) false ⟨#[], #[.slice none 0 0, .slice none 0 0], []⟩ 8 (by kernel_rfl) (by kernel_rfl) (by kernel_rfl) (by kernel_rfl)) ?_
  intro W base args ds gs before hval hW _ _ _
  exact Vm.contract_of (m := 9) (rt := 4) Vm.Ev_ok Vm.laidOut (Vm.ts_of Vm.pok_laws_FnExactDiffBytes) rfl Try.underlying4 rfl
    (fun ds h => by
      have h' : ds.length = 2 := h
      match ds, h' with
      | [_, _], _ => rfl)
    (fun xs hx => Vm.run_FnExactDiffBytes xs (by rw [Vm.par_laws_FnExactDiffBytes] at hx; exact hx)) hval hW
theorem over : Rows.fnExactDiffBytesRow.holds Try.pinned (OpenSpec.ofChange Rows.fnExactDiffBytesSpec) :=
  OpenClaim.holds_of_wide 12 Try.f12 rfl rfl rfl rfl rfl rfl rfl ⟨rfl, rfl, rfl, rfl, rfl⟩ rfl rfl rfl rfl rfl (by kernel_rfl) Try.func12 (by kernel_rfl)
    (of_decide_eq_true (by kernel_rfl)) (by unfold Func.isWrapper; first | (rw [if_pos (by decide +kernel)]; kernel_rfl) | (rw [if_neg (by decide +kernel)]; exact ⟨rfl, rfl⟩))
    (fun os started H enc _ => lifted os started H enc)
theorem proved : Rows.FnExactDiffBytesSaid := over
end Go.Proofs.Ytnidgolbfmbocaa.fnExactDiffBytes
namespace Go.Proofs.Ytnidgolbfmbocaa
/-- The row, under a short name, for the claim. -/
theorem fnExactDiffBytes_holds : Rows.FnExactDiffBytesSaid := fnExactDiffBytes.proved
end Go.Proofs.Ytnidgolbfmbocaa
#print axioms Go.Proofs.Ytnidgolbfmbocaa.fnExactDiffBytes_holds
