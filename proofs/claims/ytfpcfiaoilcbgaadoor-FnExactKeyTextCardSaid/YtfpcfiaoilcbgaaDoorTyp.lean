/-
  The types of the laws' parameters, by name. Written by a program (gen3.py).
-/
import Derived.Test.YtfpcfiaoilcbgaaDoorEnv
import Derived.Test.YtfpcfiaoilcbgaaDoorVmN
set_option maxRecDepth 100000
namespace Vm
open Go
noncomputable abbrev PR : Program := Go.Proofs.Tryd.prog
namespace T
abbrev int64 : Nat := 2
abbrev laws_Key : Nat := 23
abbrev laws_Row : Nat := 32
abbrev string : Nat := 9
end T
theorem und_int64 : type_of% Go.Proofs.Tryd.underlying2 := Go.Proofs.Tryd.underlying2
theorem und_laws_Key : type_of% Go.Proofs.Tryd.underlying23 := Go.Proofs.Tryd.underlying23
theorem und_laws_Row : type_of% Go.Proofs.Tryd.underlying32 := Go.Proofs.Tryd.underlying32
theorem und_string : type_of% Go.Proofs.Tryd.underlying9 := Go.Proofs.Tryd.underlying9
theorem laidOut : laidOutB PR = true := by kernel_rfl
theorem par_laws_FnExactKeyText : Go.Proofs.Tryd.f3.params.toList = [T.laws_Key] := by kernel_rfl
theorem pok_laws_FnExactKeyText : Go.Proofs.Tryd.f3.params.toList.all (fun t => plainT PR 9 t && (PR.readableRec t && decide (t < PR.types.size))) = true := by kernel_rfl
theorem par_laws_FnExactRowText : Go.Proofs.Tryd.f4.params.toList = [T.laws_Row] := by kernel_rfl
theorem pok_laws_FnExactRowText : Go.Proofs.Tryd.f4.params.toList.all (fun t => plainT PR 9 t && (PR.readableRec t && decide (t < PR.types.size))) = true := by kernel_rfl
theorem par_laws_FnExactParseRow : Go.Proofs.Tryd.f5.params.toList = [T.string] := by kernel_rfl
theorem pok_laws_FnExactParseRow : Go.Proofs.Tryd.f5.params.toList.all (fun t => plainT PR 9 t && (PR.readableRec t && decide (t < PR.types.size))) = true := by kernel_rfl
end Vm
