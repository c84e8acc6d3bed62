/-
  The row of FnExactPackRow: the law returns true whatever comes in, and what comes in reads as it did.
-/
import Derived.Test.YtfmkfefblbophaaRows
import Derived.Test.YtfmkfefblbophaaTyp
import Derived.Test.YtfmkfefblbophaaLFnExactPackRow
import Derived.WalkKit
import Derived.ProofKit
import Derived.OpenShut
import Derived.SizedLaws
namespace Go.Proofs.Ytfmkfefblbophaa.fnExactPackRow
open Go
set_option linter.unusedVariables false
theorem own : ownKnob Try.prog.godebug = none := by kernel_rfl
set_option maxRecDepth 100000 in
theorem lifted (os : Os) (started : os.Started) (H : Type) (enc : TypeId × Value → H) :
    ReturnsInHanded {} Try.checked os 12 .any (Rows.fnExactPackRowSpec.pre6 enc Try.prog Try.f12 Rows.fnExactPackRowRow.domain false) (Rows.fnExactPackRowSpec.post enc Try.prog Try.f12 false true false false) := by
  refine returnsInHanded_of_change_sized (C := Try.checked) own started (by kernel_rfl) Try.func12
    (ChangeSpec.witness6 (enc := enc) (C := Try.checked) false ⟨#[], #[.int .i64 0, .agg #[.int .i64 0, .int .i64 0, .int .i64 0, .string ⟨#[]⟩]], []⟩ 8 (by kernel_rfl) (by kernel_rfl) (by kernel_rfl) (by kernel_rfl)) ?_
  intro W base args ds gs before hval hW _ _ _
  exact Vm.contract_of (m := 9) (rt := 4) Vm.Ev_ok Vm.laidOut (Vm.ts_of Vm.pok_laws_FnExactPackRow) rfl Try.underlying4 rfl
    (fun ds h => by
      have h' : ds.length = 2 := h
      match ds, h' with
      | [_, _], _ => rfl)
    (fun h xs hx => Vm.run_FnExactPackRow h xs (by rw [Vm.par_laws_FnExactPackRow] at hx; exact hx)) hval hW
theorem over : Rows.fnExactPackRowRow.holds Try.pinned (OpenSpec.ofChange Rows.fnExactPackRowSpec) :=
  OpenClaim.holds_of_wide 12 Try.f12 rfl rfl rfl rfl rfl rfl rfl ⟨rfl, rfl, rfl, rfl, rfl⟩ rfl rfl rfl rfl rfl (by kernel_rfl) Try.func12 (by kernel_rfl)
    (of_decide_eq_true (by kernel_rfl)) (by unfold Func.isWrapper; first | (rw [if_pos (by decide +kernel)]; kernel_rfl) | (rw [if_neg (by decide +kernel)]; exact ⟨rfl, rfl⟩))
    (fun os started H enc _ => lifted os started H enc)
theorem proved : Rows.FnExactPackRowSaid := over
end Go.Proofs.Ytfmkfefblbophaa.fnExactPackRow
namespace Go.Proofs.Ytfmkfefblbophaa
/-- The row, under a short name, for the claim. -/
theorem fnExactPackRow_holds : Rows.FnExactPackRowSaid := fnExactPackRow.proved
end Go.Proofs.Ytfmkfefblbophaa
#print axioms Go.Proofs.Ytfmkfefblbophaa.fnExactPackRow_holds
