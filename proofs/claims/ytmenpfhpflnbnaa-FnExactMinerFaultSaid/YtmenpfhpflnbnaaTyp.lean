/-
  The types of the laws' parameters, by name. Written by a program (gen3.py).
-/
import Derived.Test.YtmenpfhpflnbnaaEnv
import Derived.Test.YtmenpfhpflnbnaaVmN
set_option maxRecDepth 100000
namespace Vm
open Go
noncomputable abbrev PR : Program := Go.Proofs.Try.prog
namespace T
abbrev S_S_uint8 : Nat := 22
abbrev S_laws_Buffer : Nat := 50
abbrev S_laws_Change : Nat := 140
abbrev S_uint8 : Nat := 64
abbrev bool : Nat := 4
abbrev int64 : Nat := 2
abbrev laws_Buffer : Nat := 142
abbrev laws_Change : Nat := 211
abbrev laws_Miner : Nat := 52
abbrev laws_Row : Nat := 209
abbrev string : Nat := 9
abbrev uint8 : Nat := 5
end T
theorem und_S_S_uint8 : type_of% Go.Proofs.Try.underlying22 := Go.Proofs.Try.underlying22
theorem und_S_laws_Buffer : type_of% Go.Proofs.Try.underlying50 := Go.Proofs.Try.underlying50
theorem und_S_laws_Change : type_of% Go.Proofs.Try.underlying140 := Go.Proofs.Try.underlying140
theorem und_S_uint8 : type_of% Go.Proofs.Try.underlying64 := Go.Proofs.Try.underlying64
theorem und_bool : type_of% Go.Proofs.Try.underlying4 := Go.Proofs.Try.underlying4
theorem und_int64 : type_of% Go.Proofs.Try.underlying2 := Go.Proofs.Try.underlying2
theorem und_laws_Buffer : type_of% Go.Proofs.Try.underlying142 := Go.Proofs.Try.underlying142
theorem und_laws_Change : type_of% Go.Proofs.Try.underlying211 := Go.Proofs.Try.underlying211
theorem und_laws_Miner : type_of% Go.Proofs.Try.underlying52 := Go.Proofs.Try.underlying52
theorem und_laws_Row : type_of% Go.Proofs.Try.underlying209 := Go.Proofs.Try.underlying209
theorem und_string : type_of% Go.Proofs.Try.underlying9 := Go.Proofs.Try.underlying9
theorem und_uint8 : type_of% Go.Proofs.Try.underlying5 := Go.Proofs.Try.underlying5
theorem laidOut : laidOutB PR = true := by kernel_rfl
theorem par_laws_FnExactPagesFault : Go.Proofs.Try.f3.params.toList = [T.S_S_uint8] := by kernel_rfl
theorem pok_laws_FnExactPagesFault : Go.Proofs.Try.f3.params.toList.all (fun t => plainT PR 9 t && (PR.readableRec t && decide (t < PR.types.size))) = true := by kernel_rfl
theorem par_laws_FnExactFindRow : Go.Proofs.Try.f4.params.toList = [T.S_S_uint8, T.int64, T.int64] := by kernel_rfl
theorem pok_laws_FnExactFindRow : Go.Proofs.Try.f4.params.toList.all (fun t => plainT PR 9 t && (PR.readableRec t && decide (t < PR.types.size))) = true := by kernel_rfl
theorem par_laws_FnExactRowsIn : Go.Proofs.Try.f5.params.toList = [T.S_S_uint8] := by kernel_rfl
theorem pok_laws_FnExactRowsIn : Go.Proofs.Try.f5.params.toList.all (fun t => plainT PR 9 t && (PR.readableRec t && decide (t < PR.types.size))) = true := by kernel_rfl
theorem par_laws_FnExactNewMiner : Go.Proofs.Try.f6.params.toList = [T.S_S_uint8] := by kernel_rfl
theorem pok_laws_FnExactNewMiner : Go.Proofs.Try.f6.params.toList.all (fun t => plainT PR 9 t && (PR.readableRec t && decide (t < PR.types.size))) = true := by kernel_rfl
theorem par_laws_FnExactMinerFault : Go.Proofs.Try.f7.params.toList = [T.laws_Miner] := by kernel_rfl
theorem pok_laws_FnExactMinerFault : Go.Proofs.Try.f7.params.toList.all (fun t => plainT PR 9 t && (PR.readableRec t && decide (t < PR.types.size))) = true := by kernel_rfl
theorem par_laws_FnExactDeleteEdits : Go.Proofs.Try.f8.params.toList = [T.S_S_uint8, T.int64, T.int64] := by kernel_rfl
theorem pok_laws_FnExactDeleteEdits : Go.Proofs.Try.f8.params.toList.all (fun t => plainT PR 9 t && (PR.readableRec t && decide (t < PR.types.size))) = true := by kernel_rfl
theorem par_laws_FnViews : Go.Proofs.Try.f9.params.toList = [T.S_uint8] := by kernel_rfl
theorem pok_laws_FnViews : Go.Proofs.Try.f9.params.toList.all (fun t => plainT PR 9 t && (PR.readableRec t && decide (t < PR.types.size))) = true := by kernel_rfl
end Vm
