/-
  The row of FnCells: the law returns true whatever comes in, and what comes in reads as it did.
-/
import Derived.Test.YtnidgolbfmbocaaRows
import Derived.Test.YtnidgolbfmbocaaTyp
import Derived.Test.YtnidgolbfmbocaaDataFnCells
import Derived.WalkKit
import Derived.ProofKit
import Derived.OpenShut
import Derived.SizedLaws
namespace Go.Proofs.Ytnidgolbfmbocaa.fnCells
open Go
set_option linter.unusedVariables false
theorem own : ownKnob Try.prog.godebug = none := by kernel_rfl
set_option maxRecDepth 100000 in
theorem lifted (os : Os) (started : os.Started) (H : Type) (enc : TypeId × Value → H) :
    ReturnsInHanded {} Try.checked os 11 .any (Rows.fnCellsSpec.pre6 enc Try.prog Try.f11 Rows.fnCellsRow.domain false) (Rows.fnCellsSpec.post enc Try.prog Try.f11 false true false false) := by
  refine returnsInHanded_of_change_sized (C := Try.checked) own started (by kernel_rfl) Try.func11
    (ChangeSpec.witness6 (enc := enc) (C := Try.checked) false ⟨#[], #[.slice none 0 0], []⟩ 8 (by kernel_rfl) (by kernel_rfl) (by kernel_rfl) (by kernel_rfl)) ?_
  intro W base args ds gs before hval hW _ _ _
  exact Vm.contract_of (m := 9) (rt := 4) Vm.Ev_ok Vm.laidOut (Vm.ts_of Vm.pok_laws_FnCells) rfl Try.underlying4 rfl
    (fun ds h => by
      have h' : ds.length = 1 := h
      match ds, h' with
      | [_], _ => rfl)
    (fun xs hx => Vm.run_FnCells xs (by rw [Vm.par_laws_FnCells] at hx; exact hx)) hval hW
theorem over : Rows.fnCellsRow.holds Try.pinned (OpenSpec.ofChange Rows.fnCellsSpec) :=
  OpenClaim.holds_of_wide 11 Try.f11 rfl rfl rfl rfl rfl rfl rfl ⟨rfl, rfl, rfl, rfl, rfl⟩ rfl rfl rfl rfl rfl (by kernel_rfl) Try.func11 (by kernel_rfl)
    (of_decide_eq_true (by kernel_rfl)) (by unfold Func.isWrapper; first | (rw [if_pos (by decide +kernel)]; kernel_rfl) | (rw [if_neg (by decide +kernel)]; exact ⟨rfl, rfl⟩))
    (fun os started H enc _ => lifted os started H enc)
theorem proved : Rows.FnCellsSaid := over
end Go.Proofs.Ytnidgolbfmbocaa.fnCells
namespace Go.Proofs.Ytnidgolbfmbocaa
/-- The row, under a short name, for the claim. -/
theorem fnCells_holds : Rows.FnCellsSaid := fnCells.proved
end Go.Proofs.Ytnidgolbfmbocaa
#print axioms Go.Proofs.Ytnidgolbfmbocaa.fnCells_holds
