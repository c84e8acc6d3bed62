/-
  The types of the laws' parameters, by name. Written by a program (gen3.py).
-/
import Derived.Test.YtmenpfhpflnbnaaGreatEnv
import Derived.Test.YtmenpfhpflnbnaaGreatVmN
set_option maxRecDepth 100000
open Go.Proofs.Tryz renaming f3->Ix,underlying22->Iv,underlying5->Iw
namespace Vm
open Go
noncomputable abbrev PR : Program := Go.Proofs.Tryz.prog
namespace T
abbrev S_uint8 : Nat := 22
abbrev Q5n : Nat := 5
end T
theorem BJ : type_of% Iv := Iv
theorem jK : type_of% Iw := Iw
theorem laidOut : laidOutB PR = true := by kernel_rfl
theorem par_laws_FnDeletes : Ix.params.toList = [T.S_uint8] := by kernel_rfl
theorem pok_laws_FnDeletes : Ix.params.toList.all (fun t => KR PR 9 t && (PR.readableRec t && decide (t < PR.types.size))) = true := by kernel_rfl
end Vm
