/-
  The types of the laws' parameters, by name. Written by a program (gen3.py).
-/
import Derived.Test.YtpdoloemacmbaaaEnv
import Derived.Test.YtpdoloemacmbaaaVmN
set_option maxRecDepth 100000
namespace Vm
open Go
noncomputable abbrev PR : Program := Go.Proofs.Try.prog
namespace T
abbrev S_uint8 : Nat := 22
abbrev uint8 : Nat := 5
end T
theorem und_S_uint8 : type_of% Go.Proofs.Try.underlying22 := Go.Proofs.Try.underlying22
theorem und_uint8 : type_of% Go.Proofs.Try.underlying5 := Go.Proofs.Try.underlying5
theorem laidOut : laidOutB PR = true := by kernel_rfl
theorem par_laws_FnChanges : Go.Proofs.Try.f3.params.toList = [T.S_uint8] := by kernel_rfl
theorem pok_laws_FnChanges : Go.Proofs.Try.f3.params.toList.all (fun t => plainT PR 9 t && (PR.readableRec t && decide (t < PR.types.size))) = true := by kernel_rfl
end Vm
