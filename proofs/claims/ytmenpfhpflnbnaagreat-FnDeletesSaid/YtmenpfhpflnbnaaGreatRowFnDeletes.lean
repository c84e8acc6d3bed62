/-
  The row of FnDeletes: the law returns true whatever comes in, and what comes in reads as it did.
-/
import Derived.Test.YtmenpfhpflnbnaaGreatRows
import Derived.Test.YtmenpfhpflnbnaaGreatTyp
import Derived.Test.YtmenpfhpflnbnaaGreatDataFnDeletes
import Derived.WalkKit
import Derived.ProofKit
import Derived.OpenShut
import Derived.SizedLaws
namespace Go.Proofs.YtmenpfhpflnbnaaGreat.fnDeletes
open Go
set_option linter.unusedVariables false
theorem own : ownKnob Tryz.prog.godebug = none := by kernel_rfl
set_option maxRecDepth 100000 in
theorem lifted (os : Os) (started : os.Started) (H : Type) (enc : TypeId × Value → H) :
    ReturnsInHanded {} Tryz.checked os 3 .any (Rows.fnDeletesSpec.pre6 enc Tryz.prog Tryz.f3 Rows.fnDeletesRow.domain false) (Rows.fnDeletesSpec.post enc Tryz.prog Tryz.f3 false true false false) := by
  refine returnsInHanded_of_change_sized (C := Tryz.checked) own started (by kernel_rfl) Tryz.func3
    (ChangeSpec.witness6 (enc := enc) (C := Tryz.checked) false ⟨#[], #[.slice none 0 0], []⟩ 8 (by kernel_rfl) (by kernel_rfl) (by kernel_rfl) (by kernel_rfl)) ?_
  intro W base args ds gs before hval hW _ _ _
  exact Vm.contract_of (m := 9) (rt := 4) Vm.Ev_ok Vm.laidOut (Vm.ts_of Vm.pok_laws_FnDeletes) rfl Tryz.underlying4 rfl
    (fun ds h => by
      have h' : ds.length = 1 := h
      match ds, h' with
      | [_], _ => rfl)
    (fun xs hx => Vm.run_FnDeletes xs (by rw [Vm.par_laws_FnDeletes] at hx; exact hx)) hval hW
theorem over : Rows.fnDeletesRow.holds Tryz.pinned (OpenSpec.ofChange Rows.fnDeletesSpec) :=
  OpenClaim.holds_of_wide 3 Tryz.f3 rfl rfl rfl rfl rfl rfl rfl ⟨rfl, rfl, rfl, rfl, rfl⟩ rfl rfl rfl rfl rfl (by kernel_rfl) Tryz.func3 (by kernel_rfl)
    (of_decide_eq_true (by kernel_rfl)) (by unfold Func.isWrapper; first | (rw [if_pos (by decide +kernel)]; kernel_rfl) | (rw [if_neg (by decide +kernel)]; exact ⟨rfl, rfl⟩))
    (fun os started H enc _ => lifted os started H enc)
theorem proved : Rows.FnDeletesSaid := over
end Go.Proofs.YtmenpfhpflnbnaaGreat.fnDeletes
namespace Go.Proofs.YtmenpfhpflnbnaaGreat
/-- The row, under a short name, for the claim. -/
theorem fnDeletes_holds : Rows.FnDeletesSaid := fnDeletes.proved
end Go.Proofs.YtmenpfhpflnbnaaGreat
#print axioms Go.Proofs.YtmenpfhpflnbnaaGreat.fnDeletes_holds
