/-
  The types of the laws' parameters, by name. Written by a program (gen3.py).
-/
import Derived.Test.YtfmkfefblbophaaEnv
import Derived.Test.YtfmkfefblbophaaVmN
set_option maxRecDepth 100000
namespace Vm
open Go
noncomputable abbrev PR : Program := Go.Proofs.Try.prog
namespace T
abbrev S_laws_Row : Nat := 70
abbrev S_laws_Run : Nat := 57
abbrev S_uint8 : Nat := 32
abbrev int64 : Nat := 2
abbrev laws_Op : Nat := 50
abbrev laws_Row : Nat := 24
abbrev laws_Run : Nat := 97
abbrev string : Nat := 9
abbrev uint8 : Nat := 5
end T
theorem und_S_laws_Row : type_of% Go.Proofs.Try.underlying70 := Go.Proofs.Try.underlying70
theorem und_S_laws_Run : type_of% Go.Proofs.Try.underlying57 := Go.Proofs.Try.underlying57
theorem und_S_uint8 : type_of% Go.Proofs.Try.underlying32 := Go.Proofs.Try.underlying32
theorem und_int64 : type_of% Go.Proofs.Try.underlying2 := Go.Proofs.Try.underlying2
theorem und_laws_Op : type_of% Go.Proofs.Try.underlying50 := Go.Proofs.Try.underlying50
theorem und_laws_Row : type_of% Go.Proofs.Try.underlying24 := Go.Proofs.Try.underlying24
theorem und_laws_Run : type_of% Go.Proofs.Try.underlying97 := Go.Proofs.Try.underlying97
theorem und_string : type_of% Go.Proofs.Try.underlying9 := Go.Proofs.Try.underlying9
theorem und_uint8 : type_of% Go.Proofs.Try.underlying5 := Go.Proofs.Try.underlying5
theorem laidOut : laidOutB PR = true := by kernel_rfl
theorem par_laws_FnExactConstants : Go.Proofs.Try.f3.params.toList = [] := by kernel_rfl
theorem pok_laws_FnExactConstants : Go.Proofs.Try.f3.params.toList.all (fun t => plainT PR 9 t && (PR.readableRec t && decide (t < PR.types.size))) = true := by kernel_rfl
theorem par_laws_FnExactIsBefore : Go.Proofs.Try.f4.params.toList = [T.laws_Row, T.laws_Row] := by kernel_rfl
theorem pok_laws_FnExactIsBefore : Go.Proofs.Try.f4.params.toList.all (fun t => plainT PR 9 t && (PR.readableRec t && decide (t < PR.types.size))) = true := by kernel_rfl
theorem par_laws_FnExactRowFault : Go.Proofs.Try.f5.params.toList = [T.laws_Row] := by kernel_rfl
theorem pok_laws_FnExactRowFault : Go.Proofs.Try.f5.params.toList.all (fun t => plainT PR 9 t && (PR.readableRec t && decide (t < PR.types.size))) = true := by kernel_rfl
theorem par_laws_FnExactPackStub : Go.Proofs.Try.f6.params.toList = [T.int64, T.int64] := by kernel_rfl
theorem pok_laws_FnExactPackStub : Go.Proofs.Try.f6.params.toList.all (fun t => plainT PR 9 t && (PR.readableRec t && decide (t < PR.types.size))) = true := by kernel_rfl
theorem par_laws_FnExactNewPage : Go.Proofs.Try.f7.params.toList = [T.uint8] := by kernel_rfl
theorem pok_laws_FnExactNewPage : Go.Proofs.Try.f7.params.toList.all (fun t => plainT PR 9 t && (PR.readableRec t && decide (t < PR.types.size))) = true := by kernel_rfl
theorem par_laws_FnExactPageFault : Go.Proofs.Try.f8.params.toList = [T.S_uint8] := by kernel_rfl
theorem pok_laws_FnExactPageFault : Go.Proofs.Try.f8.params.toList.all (fun t => plainT PR 9 t && (PR.readableRec t && decide (t < PR.types.size))) = true := by kernel_rfl
theorem par_laws_FnExactOpFault : Go.Proofs.Try.f9.params.toList = [T.laws_Op] := by kernel_rfl
theorem pok_laws_FnExactOpFault : Go.Proofs.Try.f9.params.toList.all (fun t => plainT PR 9 t && (PR.readableRec t && decide (t < PR.types.size))) = true := by kernel_rfl
theorem par_laws_FnExactRunsFault : Go.Proofs.Try.f10.params.toList = [T.S_laws_Run] := by kernel_rfl
theorem pok_laws_FnExactRunsFault : Go.Proofs.Try.f10.params.toList.all (fun t => plainT PR 9 t && (PR.readableRec t && decide (t < PR.types.size))) = true := by kernel_rfl
theorem par_laws_FnExactUnpackCell : Go.Proofs.Try.f11.params.toList = [T.S_uint8] := by kernel_rfl
theorem pok_laws_FnExactUnpackCell : Go.Proofs.Try.f11.params.toList.all (fun t => plainT PR 9 t && (PR.readableRec t && decide (t < PR.types.size))) = true := by kernel_rfl
theorem par_laws_FnExactPackRow : Go.Proofs.Try.f12.params.toList = [T.int64, T.laws_Row] := by kernel_rfl
theorem pok_laws_FnExactPackRow : Go.Proofs.Try.f12.params.toList.all (fun t => plainT PR 9 t && (PR.readableRec t && decide (t < PR.types.size))) = true := by kernel_rfl
theorem par_laws_FnExactRowsFault : Go.Proofs.Try.f13.params.toList = [T.S_laws_Row] := by kernel_rfl
theorem pok_laws_FnExactRowsFault : Go.Proofs.Try.f13.params.toList.all (fun t => plainT PR 9 t && (PR.readableRec t && decide (t < PR.types.size))) = true := by kernel_rfl
theorem par_laws_FnExactFreeIn : Go.Proofs.Try.f14.params.toList = [T.S_uint8] := by kernel_rfl
theorem pok_laws_FnExactFreeIn : Go.Proofs.Try.f14.params.toList.all (fun t => plainT PR 9 t && (PR.readableRec t && decide (t < PR.types.size))) = true := by kernel_rfl
end Vm
