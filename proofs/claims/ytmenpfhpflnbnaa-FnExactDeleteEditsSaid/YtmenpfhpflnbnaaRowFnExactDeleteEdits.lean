/-
  The row of FnExactDeleteEdits: the law returns true whatever comes in, and what comes in reads as it did.
-/
import Derived.Test.YtmenpfhpflnbnaaRows
import Derived.Test.YtmenpfhpflnbnaaTyp
import Derived.Test.YtmenpfhpflnbnaaDataFnExactDeleteEdits
import Derived.WalkKit
import Derived.ProofKit
import Derived.OpenShut
import Derived.SizedLaws
namespace Go.Proofs.Ytmenpfhpflnbnaa.fnExactDeleteEdits
open Go
set_option linter.unusedVariables false
theorem own : ownKnob Try.prog.godebug = none := by kernel_rfl
set_option maxRecDepth 100000 in
theorem lifted (os : Os) (started : os.Started) (H : Type) (enc : TypeId × Value → H) :
    ReturnsInHanded {} Try.checked os 8 .any (Rows.fnExactDeleteEditsSpec.pre6 enc Try.prog Try.f8 Rows.fnExactDeleteEditsRow.domain false) (Rows.fnExactDeleteEditsSpec.post enc Try.prog Try.f8 false true false false) := by
  refine returnsInHanded_of_change_sized (C := Try.checked) own started (by kernel_rfl) Try.func8
    (ChangeSpec.witness6 (enc := enc) (C := Try.checked) false ⟨#[], #[.slice none 0 0, .int .i64 0, .int .i64 0], []⟩ 8 (by kernel_rfl) (by kernel_rfl) (by kernel_rfl) (by kernel_rfl)) ?_
  intro W base args ds gs before hval hW _ _ _
  exact Vm.contract_of (m := 9) (rt := 4) Vm.Ev_ok Vm.laidOut (Vm.ts_of Vm.pok_laws_FnExactDeleteEdits) rfl Try.underlying4 rfl
    (fun ds h => by
      have h' : ds.length = 3 := h
      match ds, h' with
      | [_, _, _], _ => rfl)
    (fun xs hx => Vm.run_FnExactDeleteEdits xs (by rw [Vm.par_laws_FnExactDeleteEdits] at hx; exact hx)) hval hW
theorem over : Rows.fnExactDeleteEditsRow.holds Try.pinned (OpenSpec.ofChange Rows.fnExactDeleteEditsSpec) :=
  OpenClaim.holds_of_wide 8 Try.f8 rfl rfl rfl rfl rfl rfl rfl ⟨rfl, rfl, rfl, rfl, rfl⟩ rfl rfl rfl rfl rfl (by kernel_rfl) Try.func8 (by kernel_rfl)
    (of_decide_eq_true (by kernel_rfl)) (by unfold Func.isWrapper; first | (rw [if_pos (by decide +kernel)]; kernel_rfl) | (rw [if_neg (by decide +kernel)]; exact ⟨rfl, rfl⟩))
    (fun os started H enc _ => lifted os started H enc)
theorem proved : Rows.FnExactDeleteEditsSaid := over
end Go.Proofs.Ytmenpfhpflnbnaa.fnExactDeleteEdits
namespace Go.Proofs.Ytmenpfhpflnbnaa
/-- The row, under a short name, for the claim. -/
theorem fnExactDeleteEdits_holds : Rows.FnExactDeleteEditsSaid := fnExactDeleteEdits.proved
end Go.Proofs.Ytmenpfhpflnbnaa
#print axioms Go.Proofs.Ytmenpfhpflnbnaa.fnExactDeleteEdits_holds
