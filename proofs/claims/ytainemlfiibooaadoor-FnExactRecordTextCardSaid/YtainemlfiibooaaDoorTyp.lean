/-
  The types of the laws' parameters, by name. Written by a program (gen3.py).
-/
import Derived.Test.YtainemlfiibooaaDoorEnv
import Derived.Test.YtainemlfiibooaaDoorVmN
set_option maxRecDepth 100000
namespace Vm
open Go
noncomputable abbrev PR : Program := Go.Proofs.Tryd.prog
namespace T
abbrev S_laws_Run : Nat := 22
abbrev S_uint8 : Nat := 36
abbrev int64 : Nat := 2
abbrev laws_Record : Nat := 24
abbrev laws_Run : Nat := 74
abbrev uint8 : Nat := 5
end T
theorem und_S_laws_Run : type_of% Go.Proofs.Tryd.underlying22 := Go.Proofs.Tryd.underlying22
theorem und_S_uint8 : type_of% Go.Proofs.Tryd.underlying36 := Go.Proofs.Tryd.underlying36
theorem und_int64 : type_of% Go.Proofs.Tryd.underlying2 := Go.Proofs.Tryd.underlying2
theorem und_laws_Record : type_of% Go.Proofs.Tryd.underlying24 := Go.Proofs.Tryd.underlying24
theorem und_laws_Run : type_of% Go.Proofs.Tryd.underlying74 := Go.Proofs.Tryd.underlying74
theorem und_uint8 : type_of% Go.Proofs.Tryd.underlying5 := Go.Proofs.Tryd.underlying5
theorem laidOut : laidOutB PR = true := by kernel_rfl
theorem par_laws_FnExactRecordText : Go.Proofs.Tryd.f3.params.toList = [T.laws_Record] := by kernel_rfl
theorem pok_laws_FnExactRecordText : Go.Proofs.Tryd.f3.params.toList.all (fun t => plainT PR 9 t && (PR.readableRec t && decide (t < PR.types.size))) = true := by kernel_rfl
theorem par_laws_FnRecords : Go.Proofs.Tryd.f4.params.toList = [T.S_uint8] := by kernel_rfl
theorem pok_laws_FnRecords : Go.Proofs.Tryd.f4.params.toList.all (fun t => plainT PR 9 t && (PR.readableRec t && decide (t < PR.types.size))) = true := by kernel_rfl
end Vm
