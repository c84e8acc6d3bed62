/-
  The row of FnExactCrashLog: the law returns true whatever comes in, and what comes in reads as it did.
-/
import Derived.Test.YtainemlfiibooaaRows
import Derived.Test.YtainemlfiibooaaTyp
import Derived.Test.YtainemlfiibooaaDataFnExactCrashLog
import Derived.WalkKit
import Derived.ProofKit
import Derived.OpenShut
import Derived.SizedLaws
namespace Go.Proofs.Ytainemlfiibooaa.fnExactCrashLog
open Go
set_option linter.unusedVariables false
theorem own : ownKnob Try.prog.godebug = none := by kernel_rfl
set_option maxRecDepth 100000 in
theorem lifted (os : Os) (started : os.Started) (H : Type) (enc : TypeId × Value → H) :
    ReturnsInHanded {} Try.checked os 9 .any (Rows.fnExactCrashLogSpec.pre6 enc Try.prog Try.f9 Rows.fnExactCrashLogRow.domain false) (Rows.fnExactCrashLogSpec.post enc Try.prog Try.f9 false true false false) := by
  refine returnsInHanded_of_change_sized (C := Try.checked) own started (by kernel_rfl) Try.func9
    (ChangeSpec.witness6 (enc := enc) (C := Try.checked) false ⟨#[], #[.agg #[.slice none 0 0, .slice none 0 0], .int .i64 0], []⟩ 8 (by kernel_rfl) (by kernel_rfl) (by kernel_rfl) (by kernel_rfl)) ?_
  intro W base args ds gs before hval hW _ _ _
  exact Vm.contract_of (m := 9) (rt := 4) Vm.Ev_ok Vm.laidOut (Vm.ts_of Vm.pok_laws_FnExactCrashLog) rfl Try.underlying4 rfl
    (fun ds h => by
      have h' : ds.length = 2 := h
      match ds, h' with
      | [_, _], _ => rfl)
    (fun xs hx => Vm.run_FnExactCrashLog xs (by rw [Vm.par_laws_FnExactCrashLog] at hx; exact hx)) hval hW
theorem over : Rows.fnExactCrashLogRow.holds Try.pinned (OpenSpec.ofChange Rows.fnExactCrashLogSpec) :=
  OpenClaim.holds_of_wide 9 Try.f9 rfl rfl rfl rfl rfl rfl rfl ⟨rfl, rfl, rfl, rfl, rfl⟩ rfl rfl rfl rfl rfl (by kernel_rfl) Try.func9 (by kernel_rfl)
    (of_decide_eq_true (by kernel_rfl)) (by unfold Func.isWrapper; first | (rw [if_pos (by decide +kernel)]; kernel_rfl) | (rw [if_neg (by decide +kernel)]; exact ⟨rfl, rfl⟩))
    (fun os started H enc _ => lifted os started H enc)
theorem proved : Rows.FnExactCrashLogSaid := over
end Go.Proofs.Ytainemlfiibooaa.fnExactCrashLog
namespace Go.Proofs.Ytainemlfiibooaa
/-- The row, under a short name, for the claim. -/
theorem fnExactCrashLog_holds : Rows.FnExactCrashLogSaid := fnExactCrashLog.proved
end Go.Proofs.Ytainemlfiibooaa
#print axioms Go.Proofs.Ytainemlfiibooaa.fnExactCrashLog_holds
