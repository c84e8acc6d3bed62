/-
  The row of FnSets: the law returns true whatever comes in, and what comes in reads as it did.
-/
import Derived.Test.YtnidgolbfmbocaaRows
import Derived.Test.YtnidgolbfmbocaaTyp
import Derived.Test.YtnidgolbfmbocaaDataFnSets
import Derived.WalkKit
import Derived.ProofKit
import Derived.OpenShut
import Derived.SizedLaws
namespace Go.Proofs.Ytnidgolbfmbocaa.fnSets
open Go
set_option linter.unusedVariables false
theorem own : ownKnob Try.prog.godebug = none := by kernel_rfl
set_option maxRecDepth 100000 in
theorem lifted (os : Os) (started : os.Started) (H : Type) (enc : TypeId × Value → H) :
    ReturnsInHanded {} Try.checked os 10 .any (Rows.fnSetsSpec.pre6 enc Try.prog Try.f10 Rows.fnSetsRow.domain false) (Rows.fnSetsSpec.post enc Try.prog Try.f10 false true false false) := by
  refine returnsInHanded_of_change_sized (C := Try.checked) own started (by kernel_rfl) Try.func10
    (ChangeSpec.witness6 (enc := enc) (C := Try.checked) false ⟨#[], #[.slice none 0 0], []⟩ 8 (by kernel_rfl) (by kernel_rfl) (by kernel_rfl) (by kernel_rfl)) ?_
  intro W base args ds gs before hval hW _ _ _
  exact Vm.contract_of (m := 9) (rt := 4) Vm.Ev_ok Vm.laidOut (Vm.ts_of Vm.pok_laws_FnSets) rfl Try.underlying4 rfl
    (fun ds h => by
      have h' : ds.length = 1 := h
      match ds, h' with
      | [_], _ => rfl)
    (fun xs hx => Vm.run_FnSets xs (by rw [Vm.par_laws_FnSets] at hx; exact hx)) hval hW
theorem over : Rows.fnSetsRow.holds Try.pinned (OpenSpec.ofChange Rows.fnSetsSpec) :=
  OpenClaim.holds_of_wide 10 Try.f10 rfl rfl rfl rfl rfl rfl rfl ⟨rfl, rfl, rfl, rfl, rfl⟩ rfl rfl rfl rfl rfl (by kernel_rfl) Try.func10 (by kernel_rfl)
    (of_decide_eq_true (by kernel_rfl)) (by unfold Func.isWrapper; first | (rw [if_pos (by decide +kernel)]; kernel_rfl) | (rw [if_neg (by decide +kernel)]; exact ⟨rfl, rfl⟩))
    (fun os started H enc _ => lifted os started H enc)
theorem proved : Rows.FnSetsSaid := over
end Go.Proofs.Ytnidgolbfmbocaa.fnSets
namespace Go.Proofs.Ytnidgolbfmbocaa
/-- The row, under a short name, for the claim. -/
theorem fnSets_holds : Rows.FnSetsSaid := fnSets.proved
end Go.Proofs.Ytnidgolbfmbocaa
#print axioms Go.Proofs.Ytnidgolbfmbocaa.fnSets_holds
