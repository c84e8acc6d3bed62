/-
  The types of the laws' parameters, by name. Written by a program (gen3.py).
-/
import Derived.Test.YtainemlfiibooaaEnv
import Derived.Test.YtainemlfiibooaaVmN
set_option maxRecDepth 100000
namespace Vm
open Go
noncomputable abbrev PR : Program := Go.Proofs.Try.prog
namespace T
abbrev S_laws_Record : Nat := 49
abbrev S_laws_Run : Nat := 22
abbrev S_uint8 : Nat := 33
abbrev int64 : Nat := 2
abbrev laws_Log : Nat := 56
abbrev laws_Record : Nat := 24
abbrev laws_Run : Nat := 114
abbrev uint8 : Nat := 5
end T
theorem und_S_laws_Record : type_of% Go.Proofs.Try.underlying49 := Go.Proofs.Try.underlying49
theorem und_S_laws_Run : type_of% Go.Proofs.Try.underlying22 := Go.Proofs.Try.underlying22
theorem und_S_uint8 : type_of% Go.Proofs.Try.underlying33 := Go.Proofs.Try.underlying33
theorem und_int64 : type_of% Go.Proofs.Try.underlying2 := Go.Proofs.Try.underlying2
theorem und_laws_Log : type_of% Go.Proofs.Try.underlying56 := Go.Proofs.Try.underlying56
theorem und_laws_Record : type_of% Go.Proofs.Try.underlying24 := Go.Proofs.Try.underlying24
theorem und_laws_Run : type_of% Go.Proofs.Try.underlying114 := Go.Proofs.Try.underlying114
theorem und_uint8 : type_of% Go.Proofs.Try.underlying5 := Go.Proofs.Try.underlying5
theorem laidOut : laidOutB PR = true := by kernel_rfl
theorem par_laws_FnExactRecordFault : Go.Proofs.Try.f3.params.toList = [T.laws_Record] := by kernel_rfl
theorem pok_laws_FnExactRecordFault : Go.Proofs.Try.f3.params.toList.all (fun t => plainT PR 9 t && (PR.readableRec t && decide (t < PR.types.size))) = true := by kernel_rfl
theorem par_laws_FnExactPackRecord : Go.Proofs.Try.f4.params.toList = [T.laws_Record] := by kernel_rfl
theorem pok_laws_FnExactPackRecord : Go.Proofs.Try.f4.params.toList.all (fun t => plainT PR 9 t && (PR.readableRec t && decide (t < PR.types.size))) = true := by kernel_rfl
theorem par_laws_FnExactReadRecord : Go.Proofs.Try.f5.params.toList = [T.S_uint8] := by kernel_rfl
theorem pok_laws_FnExactReadRecord : Go.Proofs.Try.f5.params.toList.all (fun t => plainT PR 9 t && (PR.readableRec t && decide (t < PR.types.size))) = true := by kernel_rfl
theorem par_laws_FnExactSameRecords : Go.Proofs.Try.f6.params.toList = [T.S_laws_Record, T.S_laws_Record] := by kernel_rfl
theorem pok_laws_FnExactSameRecords : Go.Proofs.Try.f6.params.toList.all (fun t => plainT PR 9 t && (PR.readableRec t && decide (t < PR.types.size))) = true := by kernel_rfl
theorem par_laws_FnExactLogFault : Go.Proofs.Try.f7.params.toList = [T.laws_Log] := by kernel_rfl
theorem pok_laws_FnExactLogFault : Go.Proofs.Try.f7.params.toList.all (fun t => plainT PR 9 t && (PR.readableRec t && decide (t < PR.types.size))) = true := by kernel_rfl
theorem par_laws_FnExactSyncLog : Go.Proofs.Try.f8.params.toList = [T.laws_Log] := by kernel_rfl
theorem pok_laws_FnExactSyncLog : Go.Proofs.Try.f8.params.toList.all (fun t => plainT PR 9 t && (PR.readableRec t && decide (t < PR.types.size))) = true := by kernel_rfl
theorem par_laws_FnExactCrashLog : Go.Proofs.Try.f9.params.toList = [T.laws_Log, T.int64] := by kernel_rfl
theorem pok_laws_FnExactCrashLog : Go.Proofs.Try.f9.params.toList.all (fun t => plainT PR 9 t && (PR.readableRec t && decide (t < PR.types.size))) = true := by kernel_rfl
theorem par_laws_FnExactReadLog : Go.Proofs.Try.f10.params.toList = [T.S_uint8] := by kernel_rfl
theorem pok_laws_FnExactReadLog : Go.Proofs.Try.f10.params.toList.all (fun t => plainT PR 9 t && (PR.readableRec t && decide (t < PR.types.size))) = true := by kernel_rfl
theorem par_laws_FnExactPackAll : Go.Proofs.Try.f11.params.toList = [T.S_laws_Record] := by kernel_rfl
theorem pok_laws_FnExactPackAll : Go.Proofs.Try.f11.params.toList.all (fun t => plainT PR 9 t && (PR.readableRec t && decide (t < PR.types.size))) = true := by kernel_rfl
theorem par_laws_FnTorn : Go.Proofs.Try.f12.params.toList = [T.S_uint8] := by kernel_rfl
theorem pok_laws_FnTorn : Go.Proofs.Try.f12.params.toList.all (fun t => plainT PR 9 t && (PR.readableRec t && decide (t < PR.types.size))) = true := by kernel_rfl
end Vm
