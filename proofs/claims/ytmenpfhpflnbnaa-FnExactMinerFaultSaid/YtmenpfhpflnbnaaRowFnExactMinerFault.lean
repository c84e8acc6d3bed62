/-
  The row of FnExactMinerFault: the law returns true whatever comes in, and what comes in reads as it did.
-/
import Derived.Test.YtmenpfhpflnbnaaRows
import Derived.Test.YtmenpfhpflnbnaaTyp
import Derived.Test.YtmenpfhpflnbnaaDataFnExactMinerFault
import Derived.WalkKit
import Derived.ProofKit
import Derived.OpenShut
import Derived.SizedLaws
namespace Go.Proofs.Ytmenpfhpflnbnaa.fnExactMinerFault
open Go
set_option linter.unusedVariables false
theorem own : ownKnob Try.prog.godebug = none := by kernel_rfl
set_option maxRecDepth 100000 in
theorem lifted (os : Os) (started : os.Started) (H : Type) (enc : TypeId × Value → H) :
    ReturnsInHanded {} Try.checked os 7 .any (Rows.fnExactMinerFaultSpec.pre6 enc Try.prog Try.f7 Rows.fnExactMinerFaultRow.domain false) (Rows.fnExactMinerFaultSpec.post enc Try.prog Try.f7 false true false false) := by
  refine returnsInHanded_of_change_sized (C := Try.checked) own started (by kernel_rfl) Try.func7
    (ChangeSpec.witness6 (enc := enc) (C := Try.checked) false ⟨#[], #[.agg #[.slice none 0 0, .slice none 0 0]], []⟩ 8 (by kernel_rfl) (by kernel_rfl) (by kernel_rfl) (by kernel_rfl)) ?_
  intro W base args ds gs before hval hW _ _ _
  exact Vm.contract_of (m := 9) (rt := 4) Vm.Ev_ok Vm.laidOut (Vm.ts_of Vm.pok_laws_FnExactMinerFault) rfl Try.underlying4 rfl
    (fun ds h => by
      have h' : ds.length = 1 := h
      match ds, h' with
      | [_], _ => rfl)
    (fun xs hx => Vm.run_FnExactMinerFault xs (by rw [Vm.par_laws_FnExactMinerFault] at hx; exact hx)) hval hW
theorem over : Rows.fnExactMinerFaultRow.holds Try.pinned (OpenSpec.ofChange Rows.fnExactMinerFaultSpec) :=
  OpenClaim.holds_of_wide 7 Try.f7 rfl rfl rfl rfl rfl rfl rfl ⟨rfl, rfl, rfl, rfl, rfl⟩ rfl rfl rfl rfl rfl (by kernel_rfl) Try.func7 (by kernel_rfl)
    (of_decide_eq_true (by kernel_rfl)) (by unfold Func.isWrapper; first | (rw [if_pos (by decide +kernel)]; kernel_rfl) | (rw [if_neg (by decide +kernel)]; exact ⟨rfl, rfl⟩))
    (fun os started H enc _ => lifted os started H enc)
theorem proved : Rows.FnExactMinerFaultSaid := over
end Go.Proofs.Ytmenpfhpflnbnaa.fnExactMinerFault
namespace Go.Proofs.Ytmenpfhpflnbnaa
/-- The row, under a short name, for the claim. -/
theorem fnExactMinerFault_holds : Rows.FnExactMinerFaultSaid := fnExactMinerFault.proved
end Go.Proofs.Ytmenpfhpflnbnaa
#print axioms Go.Proofs.Ytmenpfhpflnbnaa.fnExactMinerFault_holds
