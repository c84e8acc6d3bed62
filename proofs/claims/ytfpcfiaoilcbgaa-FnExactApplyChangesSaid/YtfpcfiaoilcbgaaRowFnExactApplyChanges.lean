/-
  The row of FnExactApplyChanges: the law returns true whatever comes in, and what comes in reads as it did.
-/
import Derived.Test.YtfpcfiaoilcbgaaRows
import Derived.Test.YtfpcfiaoilcbgaaTyp
import Derived.Test.YtfpcfiaoilcbgaaDataFnExactApplyChanges
import Derived.WalkKit
import Derived.ProofKit
import Derived.OpenShut
import Derived.SizedLaws
namespace Go.Proofs.Ytfpcfiaoilcbgaa.fnExactApplyChanges
open Go
set_option linter.unusedVariables false
theorem own : ownKnob Try.prog.godebug = none := by kernel_rfl
set_option maxRecDepth 100000 in
theorem lifted (os : Os) (started : os.Started) (H : Type) (enc : TypeId × Value → H) :
    ReturnsInHanded {} Try.checked os 8 .any (Rows.fnExactApplyChangesSpec.pre6 enc Try.prog Try.f8 Rows.fnExactApplyChangesRow.domain false) (Rows.fnExactApplyChangesSpec.post enc Try.prog Try.f8 false true false false) := by
  refine returnsInHanded_of_change_sized (C := Try.checked) own started (by kernel_rfl) Try.func8
    (ChangeSpec.witness6 (enc := enc) (C := Try.checked) false ⟨#[], #[.slice none 0 0, .slice none 0 0], []⟩ 8 (by kernel_rfl) (by kernel_rfl) (by kernel_rfl) (by kernel_rfl)) ?_
  intro W base args ds gs before hval hW _ _ _
  exact Vm.contract_of (m := 9) (rt := 4) Vm.Ev_ok Vm.laidOut (Vm.ts_of Vm.pok_laws_FnExactApplyChanges) rfl Try.underlying4 rfl
    (fun ds h => by
      have h' : ds.length = 2 := h
      match ds, h' with
      | [_, _], _ => rfl)
    (fun xs hx => Vm.run_FnExactApplyChanges xs (by rw [Vm.par_laws_FnExactApplyChanges] at hx; exact hx)) hval hW
theorem over : Rows.fnExactApplyChangesRow.holds Try.pinned (OpenSpec.ofChange Rows.fnExactApplyChangesSpec) :=
  OpenClaim.holds_of_wide 8 Try.f8 rfl rfl rfl rfl rfl rfl rfl ⟨rfl, rfl, rfl, rfl, rfl⟩ rfl rfl rfl rfl rfl (by kernel_rfl) Try.func8 (by kernel_rfl)
    (of_decide_eq_true (by kernel_rfl)) (by unfold Func.isWrapper; first | (rw [if_pos (by decide +kernel)]; kernel_rfl) | (rw [if_neg (by decide +kernel)]; exact ⟨rfl, rfl⟩))
    (fun os started H enc _ => lifted os started H enc)
theorem proved : Rows.FnExactApplyChangesSaid := over
end Go.Proofs.Ytfpcfiaoilcbgaa.fnExactApplyChanges
namespace Go.Proofs.Ytfpcfiaoilcbgaa
/-- The row, under a short name, for the claim. -/
theorem fnExactApplyChanges_holds : Rows.FnExactApplyChangesSaid := fnExactApplyChanges.proved
end Go.Proofs.Ytfpcfiaoilcbgaa
#print axioms Go.Proofs.Ytfpcfiaoilcbgaa.fnExactApplyChanges_holds
