/-
  The row of FnChanges: the law returns true whatever comes in, and what comes in reads as it did.
-/
import Derived.Test.YtpdoloemacmbaaaRows
import Derived.Test.YtpdoloemacmbaaaTyp
import Derived.Test.YtpdoloemacmbaaaDataFnChanges
import Derived.WalkKit
import Derived.ProofKit
import Derived.OpenShut
import Derived.SizedLaws
namespace Go.Proofs.Ytpdoloemacmbaaa.fnChanges
open Go
set_option linter.unusedVariables false
theorem own : ownKnob Try.prog.godebug = none := by kernel_rfl
set_option maxRecDepth 100000 in
theorem lifted (os : Os) (started : os.Started) (H : Type) (enc : TypeId × Value → H) :
    ReturnsInHanded {} Try.checked os 3 .any (Rows.fnChangesSpec.pre6 enc Try.prog Try.f3 Rows.fnChangesRow.domain false) (Rows.fnChangesSpec.post enc Try.prog Try.f3 false true false false) := by
  refine returnsInHanded_of_change_sized (C := Try.checked) own started (by kernel_rfl) Try.func3
    (ChangeSpec.witness6 (enc := enc) (C := Try.checked) false ⟨#[], #[.slice none 0 0], []⟩ 8 (by kernel_rfl) (by kernel_rfl) (by kernel_rfl) (by kernel_rfl)) ?_
  intro W base args ds gs before hval hW _ _ _
  exact Vm.contract_of (m := 9) (rt := 4) Vm.Ev_ok Vm.laidOut (Vm.ts_of Vm.pok_laws_FnChanges) rfl Try.underlying4 rfl
    (fun ds h => by
      have h' : ds.length = 1 := h
      match ds, h' with
      | [_], _ => rfl)
    (fun xs hx => Vm.run_FnChanges xs (by rw [Vm.par_laws_FnChanges] at hx; exact hx)) hval hW
theorem over : Rows.fnChangesRow.holds Try.pinned (OpenSpec.ofChange Rows.fnChangesSpec) :=
  OpenClaim.holds_of_wide 3 Try.f3 rfl rfl rfl rfl rfl rfl rfl ⟨rfl, rfl, rfl, rfl, rfl⟩ rfl rfl rfl rfl rfl (by kernel_rfl) Try.func3 (by kernel_rfl)
    (of_decide_eq_true (by kernel_rfl)) (by unfold Func.isWrapper; first | (rw [if_pos (by decide +kernel)]; kernel_rfl) | (rw [if_neg (by decide +kernel)]; exact ⟨rfl, rfl⟩))
    (fun os started H enc _ => lifted os started H enc)
theorem proved : Rows.FnChangesSaid := over
end Go.Proofs.Ytpdoloemacmbaaa.fnChanges
namespace Go.Proofs.Ytpdoloemacmbaaa
/-- The row, under a short name, for the claim. -/
theorem fnChanges_holds : Rows.FnChangesSaid := fnChanges.proved
end Go.Proofs.Ytpdoloemacmbaaa
#print axioms Go.Proofs.Ytpdoloemacmbaaa.fnChanges_holds
