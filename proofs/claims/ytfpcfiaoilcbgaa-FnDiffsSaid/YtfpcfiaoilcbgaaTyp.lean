/-
  The types of the laws' parameters, by name. Written by a program (gen3.py).
-/
import Derived.Test.YtfpcfiaoilcbgaaEnv
import Derived.Test.YtfpcfiaoilcbgaaVmN
set_option maxRecDepth 100000
namespace Vm
open Go
noncomputable abbrev PR : Program := Go.Proofs.Try.prog
namespace T
abbrev S_S_uint8 : Nat := 68
abbrev S_laws_Change : Nat := 50
abbrev S_laws_Edit : Nat := 69
abbrev S_laws_Row : Nat := 22
abbrev S_uint8 : Nat := 84
abbrev bool : Nat := 4
abbrev int64 : Nat := 2
abbrev laws_Change : Nat := 42
abbrev laws_Edit : Nat := 135
abbrev laws_Row : Nat := 40
abbrev string : Nat := 9
abbrev uint8 : Nat := 5
end T
theorem und_S_S_uint8 : type_of% Go.Proofs.Try.underlying68 := Go.Proofs.Try.underlying68
theorem und_S_laws_Change : type_of% Go.Proofs.Try.underlying50 := Go.Proofs.Try.underlying50
theorem und_S_laws_Edit : type_of% Go.Proofs.Try.underlying69 := Go.Proofs.Try.underlying69
theorem und_S_laws_Row : type_of% Go.Proofs.Try.underlying22 := Go.Proofs.Try.underlying22
theorem und_S_uint8 : type_of% Go.Proofs.Try.underlying84 := Go.Proofs.Try.underlying84
theorem und_bool : type_of% Go.Proofs.Try.underlying4 := Go.Proofs.Try.underlying4
theorem und_int64 : type_of% Go.Proofs.Try.underlying2 := Go.Proofs.Try.underlying2
theorem und_laws_Change : type_of% Go.Proofs.Try.underlying42 := Go.Proofs.Try.underlying42
theorem und_laws_Edit : type_of% Go.Proofs.Try.underlying135 := Go.Proofs.Try.underlying135
theorem und_laws_Row : type_of% Go.Proofs.Try.underlying40 := Go.Proofs.Try.underlying40
theorem und_string : type_of% Go.Proofs.Try.underlying9 := Go.Proofs.Try.underlying9
theorem und_uint8 : type_of% Go.Proofs.Try.underlying5 := Go.Proofs.Try.underlying5
theorem laidOut : laidOutB PR = true := by kernel_rfl
theorem par_laws_FnExactLongestIn : Go.Proofs.Try.f3.params.toList = [T.S_laws_Row, T.int64] := by kernel_rfl
theorem pok_laws_FnExactLongestIn : Go.Proofs.Try.f3.params.toList.all (fun t => plainT PR 9 t && (PR.readableRec t && decide (t < PR.types.size))) = true := by kernel_rfl
theorem par_laws_FnExactTablesIn : Go.Proofs.Try.f4.params.toList = [T.S_laws_Row] := by kernel_rfl
theorem pok_laws_FnExactTablesIn : Go.Proofs.Try.f4.params.toList.all (fun t => plainT PR 9 t && (PR.readableRec t && decide (t < PR.types.size))) = true := by kernel_rfl
theorem par_laws_FnExactMayBe : Go.Proofs.Try.f5.params.toList = [T.S_laws_Row, T.laws_Change] := by kernel_rfl
theorem pok_laws_FnExactMayBe : Go.Proofs.Try.f5.params.toList.all (fun t => plainT PR 9 t && (PR.readableRec t && decide (t < PR.types.size))) = true := by kernel_rfl
theorem par_laws_FnExactInverseOf : Go.Proofs.Try.f6.params.toList = [T.S_laws_Change] := by kernel_rfl
theorem pok_laws_FnExactInverseOf : Go.Proofs.Try.f6.params.toList.all (fun t => plainT PR 9 t && (PR.readableRec t && decide (t < PR.types.size))) = true := by kernel_rfl
theorem par_laws_FnExactChangesOf : Go.Proofs.Try.f7.params.toList = [T.S_laws_Row, T.S_laws_Row] := by kernel_rfl
theorem pok_laws_FnExactChangesOf : Go.Proofs.Try.f7.params.toList.all (fun t => plainT PR 9 t && (PR.readableRec t && decide (t < PR.types.size))) = true := by kernel_rfl
theorem par_laws_FnExactApplyChanges : Go.Proofs.Try.f8.params.toList = [T.S_laws_Row, T.S_laws_Change] := by kernel_rfl
theorem pok_laws_FnExactApplyChanges : Go.Proofs.Try.f8.params.toList.all (fun t => plainT PR 9 t && (PR.readableRec t && decide (t < PR.types.size))) = true := by kernel_rfl
theorem par_laws_FnExactFoldChange : Go.Proofs.Try.f9.params.toList = [T.S_laws_Change, T.laws_Change] := by kernel_rfl
theorem pok_laws_FnExactFoldChange : Go.Proofs.Try.f9.params.toList.all (fun t => plainT PR 9 t && (PR.readableRec t && decide (t < PR.types.size))) = true := by kernel_rfl
theorem par_laws_FnExactApplyEdits : Go.Proofs.Try.f10.params.toList = [T.S_S_uint8, T.S_laws_Edit] := by kernel_rfl
theorem pok_laws_FnExactApplyEdits : Go.Proofs.Try.f10.params.toList.all (fun t => plainT PR 9 t && (PR.readableRec t && decide (t < PR.types.size))) = true := by kernel_rfl
theorem par_laws_FnDiffs : Go.Proofs.Try.f11.params.toList = [T.S_uint8] := by kernel_rfl
theorem pok_laws_FnDiffs : Go.Proofs.Try.f11.params.toList.all (fun t => plainT PR 9 t && (PR.readableRec t && decide (t < PR.types.size))) = true := by kernel_rfl
end Vm
