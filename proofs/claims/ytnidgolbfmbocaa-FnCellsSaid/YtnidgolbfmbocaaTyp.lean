/-
  The types of the laws' parameters, by name. Written by a program (gen3.py).
-/
import Derived.Test.YtnidgolbfmbocaaEnv
import Derived.Test.YtnidgolbfmbocaaVmN
set_option maxRecDepth 100000
namespace Vm
open Go
noncomputable abbrev PR : Program := Go.Proofs.Try.prog
namespace T
abbrev S_laws_Run : Nat := 72
abbrev S_uint8 : Nat := 22
abbrev int64 : Nat := 2
abbrev laws_Run : Nat := 113
abbrev uint8 : Nat := 5
end T
theorem und_S_laws_Run : type_of% Go.Proofs.Try.underlying72 := Go.Proofs.Try.underlying72
theorem und_S_uint8 : type_of% Go.Proofs.Try.underlying22 := Go.Proofs.Try.underlying22
theorem und_int64 : type_of% Go.Proofs.Try.underlying2 := Go.Proofs.Try.underlying2
theorem und_laws_Run : type_of% Go.Proofs.Try.underlying113 := Go.Proofs.Try.underlying113
theorem und_uint8 : type_of% Go.Proofs.Try.underlying5 := Go.Proofs.Try.underlying5
theorem laidOut : laidOutB PR = true := by kernel_rfl
theorem par_laws_FnExactSlotIn : Go.Proofs.Try.f3.params.toList = [T.S_uint8, T.int64] := by kernel_rfl
theorem pok_laws_FnExactSlotIn : Go.Proofs.Try.f3.params.toList.all (fun t => plainT PR 9 t && (PR.readableRec t && decide (t < PR.types.size))) = true := by kernel_rfl
theorem par_laws_FnExactDropSlot : Go.Proofs.Try.f4.params.toList = [T.S_uint8, T.int64] := by kernel_rfl
theorem pok_laws_FnExactDropSlot : Go.Proofs.Try.f4.params.toList.all (fun t => plainT PR 9 t && (PR.readableRec t && decide (t < PR.types.size))) = true := by kernel_rfl
theorem par_laws_FnExactCompactPage : Go.Proofs.Try.f5.params.toList = [T.S_uint8] := by kernel_rfl
theorem pok_laws_FnExactCompactPage : Go.Proofs.Try.f5.params.toList.all (fun t => plainT PR 9 t && (PR.readableRec t && decide (t < PR.types.size))) = true := by kernel_rfl
theorem par_laws_FnExactSetSlot : Go.Proofs.Try.f6.params.toList = [T.S_uint8, T.int64, T.S_uint8] := by kernel_rfl
theorem pok_laws_FnExactSetSlot : Go.Proofs.Try.f6.params.toList.all (fun t => plainT PR 9 t && (PR.readableRec t && decide (t < PR.types.size))) = true := by kernel_rfl
theorem par_laws_FnExactPutSlot : Go.Proofs.Try.f7.params.toList = [T.S_uint8, T.S_uint8] := by kernel_rfl
theorem pok_laws_FnExactPutSlot : Go.Proofs.Try.f7.params.toList.all (fun t => plainT PR 9 t && (PR.readableRec t && decide (t < PR.types.size))) = true := by kernel_rfl
theorem par_laws_FnPuts : Go.Proofs.Try.f8.params.toList = [T.S_uint8] := by kernel_rfl
theorem pok_laws_FnPuts : Go.Proofs.Try.f8.params.toList.all (fun t => plainT PR 9 t && (PR.readableRec t && decide (t < PR.types.size))) = true := by kernel_rfl
theorem par_laws_FnCompacts : Go.Proofs.Try.f9.params.toList = [T.S_uint8] := by kernel_rfl
theorem pok_laws_FnCompacts : Go.Proofs.Try.f9.params.toList.all (fun t => plainT PR 9 t && (PR.readableRec t && decide (t < PR.types.size))) = true := by kernel_rfl
theorem par_laws_FnSets : Go.Proofs.Try.f10.params.toList = [T.S_uint8] := by kernel_rfl
theorem pok_laws_FnSets : Go.Proofs.Try.f10.params.toList.all (fun t => plainT PR 9 t && (PR.readableRec t && decide (t < PR.types.size))) = true := by kernel_rfl
theorem par_laws_FnCells : Go.Proofs.Try.f11.params.toList = [T.S_uint8] := by kernel_rfl
theorem pok_laws_FnCells : Go.Proofs.Try.f11.params.toList.all (fun t => plainT PR 9 t && (PR.readableRec t && decide (t < PR.types.size))) = true := by kernel_rfl
theorem par_laws_FnExactDiffBytes : Go.Proofs.Try.f12.params.toList = [T.S_uint8, T.S_uint8] := by kernel_rfl
theorem pok_laws_FnExactDiffBytes : Go.Proofs.Try.f12.params.toList.all (fun t => plainT PR 9 t && (PR.readableRec t && decide (t < PR.types.size))) = true := by kernel_rfl
theorem par_laws_FnExactApplyRuns : Go.Proofs.Try.f13.params.toList = [T.S_uint8, T.S_laws_Run] := by kernel_rfl
theorem pok_laws_FnExactApplyRuns : Go.Proofs.Try.f13.params.toList.all (fun t => plainT PR 9 t && (PR.readableRec t && decide (t < PR.types.size))) = true := by kernel_rfl
theorem par_laws_FnExactInverseRuns : Go.Proofs.Try.f14.params.toList = [T.S_uint8, T.S_laws_Run] := by kernel_rfl
theorem pok_laws_FnExactInverseRuns : Go.Proofs.Try.f14.params.toList.all (fun t => plainT PR 9 t && (PR.readableRec t && decide (t < PR.types.size))) = true := by kernel_rfl
end Vm
