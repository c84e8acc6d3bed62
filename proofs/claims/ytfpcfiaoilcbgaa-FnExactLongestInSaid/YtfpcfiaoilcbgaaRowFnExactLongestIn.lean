/-
  The row of FnExactLongestIn: the law returns true whatever comes in, and what comes in reads as it did.
-/
import Derived.Test.YtfpcfiaoilcbgaaRows
import Derived.Test.YtfpcfiaoilcbgaaTyp
import Derived.Test.YtfpcfiaoilcbgaaLFnExactLongestIn
import Derived.WalkKit
import Derived.ProofKit
import Derived.OpenShut
import Derived.SizedLaws
namespace Go.Proofs.Ytfpcfiaoilcbgaa.fnExactLongestIn
open Go
set_option linter.unusedVariables false
theorem own : ownKnob Try.prog.godebug = none := by kernel_rfl
set_option maxRecDepth 100000 in
theorem lifted (os : Os) (started : os.Started) (H : Type) (enc : TypeId × Value → H) :
    ReturnsInHanded {} Try.checked os 3 .any (Rows.fnExactLongestInSpec.pre6 enc Try.prog Try.f3 Rows.fnExactLongestInRow.domain false) (Rows.fnExactLongestInSpec.post enc Try.prog Try.f3 false true false false) := by
  refine returnsInHanded_of_change_sized (C := Try.checked) own started (by kernel_rfl) Try.func3
    (ChangeSpec.witness6 (enc := enc) (C := Try.checked) false ⟨#[], #[.slice none 0 0, .int .i64 0], []⟩ 8 (by kernel_rfl) (by kernel_rfl) (by kernel_rfl) (by kernel_rfl)) ?_
  intro W base args ds gs before hval hW _ _ _
  exact Vm.contract_of (m := 9) (rt := 4) Vm.Ev_ok Vm.laidOut (Vm.ts_of Vm.pok_laws_FnExactLongestIn) rfl Try.underlying4 rfl
    (fun ds h => by
      have h' : ds.length = 2 := h
      match ds, h' with
      | [_, _], _ => rfl)
    (fun xs hx => Vm.run_FnExactLongestIn xs (by rw [Vm.par_laws_FnExactLongestIn] at hx; exact hx)) hval hW
theorem over : Rows.fnExactLongestInRow.holds Try.pinned (OpenSpec.ofChange Rows.fnExactLongestInSpec) :=
  OpenClaim.holds_of_wide 3 Try.f3 rfl rfl rfl rfl rfl rfl rfl ⟨rfl, rfl, rfl, rfl, rfl⟩ rfl rfl rfl rfl rfl (by kernel_rfl) Try.func3 (by kernel_rfl)
    (of_decide_eq_true (by kernel_rfl)) (by unfold Func.isWrapper; first | (rw [if_pos (by decide +kernel)]; kernel_rfl) | (rw [if_neg (by decide +kernel)]; exact ⟨rfl, rfl⟩))
    (fun os started H enc _ => lifted os started H enc)
theorem proved : Rows.FnExactLongestInSaid := over
end Go.Proofs.Ytfpcfiaoilcbgaa.fnExactLongestIn
namespace Go.Proofs.Ytfpcfiaoilcbgaa
/-- The row, under a short name, for the claim. -/
theorem fnExactLongestIn_holds : Rows.FnExactLongestInSaid := fnExactLongestIn.proved
end Go.Proofs.Ytfpcfiaoilcbgaa
#print axioms Go.Proofs.Ytfpcfiaoilcbgaa.fnExactLongestIn_holds
