/-
  The types of the laws' parameters, by name. Written by a program (gen3.py).
-/
import Derived.Test.YtpdoloemacmbaaaEnv
import Derived.Test.YtpdoloemacmbaaaVmN
set_option maxRecDepth 100000
namespace Vm
open Go
noncomputable abbrev PR : Program := Go.Proofs.Try.prog
namespace T
abbrev S_S_uint8 : Nat := 46
abbrev S_int64 : Nat := 134
abbrev S_laws_Change : Nat := 133
abbrev S_laws_Key : Nat := 135
abbrev S_laws_Row : Nat := 83
abbrev S_laws_Run : Nat := 47
abbrev S_laws_Tx : Nat := 67
abbrev S_uint8 : Nat := 22
abbrev bool : Nat := 4
abbrev int64 : Nat := 2
abbrev laws_Change : Nat := 201
abbrev laws_Key : Nat := 75
abbrev laws_Record : Nat := 49
abbrev laws_Row : Nat := 151
abbrev laws_Run : Nat := 175
abbrev laws_Tx : Nat := 137
abbrev string : Nat := 9
abbrev uint8 : Nat := 5
end T
theorem und_S_S_uint8 : type_of% Go.Proofs.Try.underlying46 := Go.Proofs.Try.underlying46
theorem und_S_int64 : type_of% Go.Proofs.Try.underlying134 := Go.Proofs.Try.underlying134
theorem und_S_laws_Change : type_of% Go.Proofs.Try.underlying133 := Go.Proofs.Try.underlying133
theorem und_S_laws_Key : type_of% Go.Proofs.Try.underlying135 := Go.Proofs.Try.underlying135
theorem und_S_laws_Row : type_of% Go.Proofs.Try.underlying83 := Go.Proofs.Try.underlying83
theorem und_S_laws_Run : type_of% Go.Proofs.Try.underlying47 := Go.Proofs.Try.underlying47
theorem und_S_laws_Tx : type_of% Go.Proofs.Try.underlying67 := Go.Proofs.Try.underlying67
theorem und_S_uint8 : type_of% Go.Proofs.Try.underlying22 := Go.Proofs.Try.underlying22
theorem und_bool : type_of% Go.Proofs.Try.underlying4 := Go.Proofs.Try.underlying4
theorem und_int64 : type_of% Go.Proofs.Try.underlying2 := Go.Proofs.Try.underlying2
theorem und_laws_Change : type_of% Go.Proofs.Try.underlying201 := Go.Proofs.Try.underlying201
theorem und_laws_Key : type_of% Go.Proofs.Try.underlying75 := Go.Proofs.Try.underlying75
theorem und_laws_Record : type_of% Go.Proofs.Try.underlying49 := Go.Proofs.Try.underlying49
theorem und_laws_Row : type_of% Go.Proofs.Try.underlying151 := Go.Proofs.Try.underlying151
theorem und_laws_Run : type_of% Go.Proofs.Try.underlying175 := Go.Proofs.Try.underlying175
theorem und_laws_Tx : type_of% Go.Proofs.Try.underlying137 := Go.Proofs.Try.underlying137
theorem und_string : type_of% Go.Proofs.Try.underlying9 := Go.Proofs.Try.underlying9
theorem und_uint8 : type_of% Go.Proofs.Try.underlying5 := Go.Proofs.Try.underlying5
theorem laidOut : laidOutB PR = true := by kernel_rfl
theorem par_laws_FnChanges : Go.Proofs.Try.f3.params.toList = [T.S_uint8] := by kernel_rfl
theorem pok_laws_FnChanges : Go.Proofs.Try.f3.params.toList.all (fun t => plainT PR 9 t && (PR.readableRec t && decide (t < PR.types.size))) = true := by kernel_rfl
theorem par_laws_FnFolds : Go.Proofs.Try.f4.params.toList = [T.S_uint8] := by kernel_rfl
theorem pok_laws_FnFolds : Go.Proofs.Try.f4.params.toList.all (fun t => plainT PR 9 t && (PR.readableRec t && decide (t < PR.types.size))) = true := by kernel_rfl
theorem par_laws_FnExactApplyRecord : Go.Proofs.Try.f5.params.toList = [T.S_S_uint8, T.laws_Record] := by kernel_rfl
theorem pok_laws_FnExactApplyRecord : Go.Proofs.Try.f5.params.toList.all (fun t => plainT PR 9 t && (PR.readableRec t && decide (t < PR.types.size))) = true := by kernel_rfl
theorem par_laws_FnExactTxsFault : Go.Proofs.Try.f6.params.toList = [T.S_laws_Tx] := by kernel_rfl
theorem pok_laws_FnExactTxsFault : Go.Proofs.Try.f6.params.toList.all (fun t => plainT PR 9 t && (PR.readableRec t && decide (t < PR.types.size))) = true := by kernel_rfl
theorem par_laws_FnExactLockOf : Go.Proofs.Try.f7.params.toList = [T.S_laws_Tx, T.laws_Key] := by kernel_rfl
theorem pok_laws_FnExactLockOf : Go.Proofs.Try.f7.params.toList.all (fun t => plainT PR 9 t && (PR.readableRec t && decide (t < PR.types.size))) = true := by kernel_rfl
theorem par_laws_FnExactRoomOf : Go.Proofs.Try.f8.params.toList = [T.S_laws_Row, T.S_laws_Tx] := by kernel_rfl
theorem pok_laws_FnExactRoomOf : Go.Proofs.Try.f8.params.toList.all (fun t => plainT PR 9 t && (PR.readableRec t && decide (t < PR.types.size))) = true := by kernel_rfl
end Vm
