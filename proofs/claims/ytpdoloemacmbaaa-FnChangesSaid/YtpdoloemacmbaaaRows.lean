/-
  No cell of these rows narrows 'for every input' (looked for: loops, veiled, ifaces, maps, wideKeys, modest, calm, conditions, laid).
  DERIVED. THE GIVEN ROWS OF THIS SEAT. 6 by the template 'for every input the law returns true; each argument reads behind the call as it read before'; 0 by the template 'total and deterministic' (their statements: YtpdoloemacmbaaaTotals.lean).
  GIVEN WITH THE SEED: the statements are not yours to turn. If you find one false, say at which input.
  Laid BY PROGRAM, IN A SANDBOX (cutbox-rows.mjs): the forced cells as the released guide's own fill.sh prints them over the translation 0e9c626c1cf9436d… (all of the seat's roots in one cut). By AI agents, Wed Nov 11 2026. No macro, syntax, notation, axiom, sorry.
-/
import Derived.Test.YtpdoloemacmbaaaChecked
import GoSem.Claim
import GoSem.ClaimJoined
import GoSem.ClaimMapViews
import Derived.JoinedTies
import Derived.KernelRfl
namespace Go.Proofs.Ytpdoloemacmbaaa
/- THE CELL 'sum', in the pinned program and in every row, IS THE sha256 OF THE DUMP (.gsa) THAT YtpdoloemacmbaaaProg.lean LOADS. Nothing in Lean hashes anything: it is a label: what it is worth is what the hold of that sum in a sandbox is worth. -/
noncomputable def Try.pinned : Pinned := { name := "ytpdoloemacmbaaa", sum := "0e9c626c1cf9436dc7e230a5421234361ff72b15c505397a210f470d8852dab2", checked := Try.checked }
namespace Rows
def none {H : Type} : Left H := { results := [], args := [] }

/-- 'laws.FnChanges': WHATEVER THE INPUT: true; the input reads as it did. -/
def fnChangesSpec : ChangeSpec := { name := "fnChanges", fn := fun _ => fun
  | [d] => { results := [.lit (.bool true)], args := [d] }
  | _ => none }
def fnChangesRow : OpenClaim := { program := "ytpdoloemacmbaaa", sum := "0e9c626c1cf9436dc7e230a5421234361ff72b15c505397a210f470d8852dab2", func := "loop.example/g00408/laws.FnChanges", spec := "fnChanges", unfollowed := true, recurses := true, plainKeys := false, apart := false }
def FnChangesSaid : Prop := fnChangesRow.holds Try.pinned (OpenSpec.ofChange fnChangesSpec)

/-- ITS FALSE NEIGHBOUR: 'it returns false'. Refute it at one input. -/
def fnChangesWrong : ChangeSpec := { name := "fnChanges", fn := fun _ => fun
  | [d] => { results := [.lit (.bool false)], args := [d] }
  | _ => none }
def FnChangesWrongFalsely : Prop := fnChangesRow.holds Try.pinned (OpenSpec.ofChange fnChangesWrong)

/-- 'laws.FnFolds': WHATEVER THE INPUT: true; the input reads as it did. -/
def fnFoldsSpec : ChangeSpec := { name := "fnFolds", fn := fun _ => fun
  | [d] => { results := [.lit (.bool true)], args := [d] }
  | _ => none }
def fnFoldsRow : OpenClaim := { program := "ytpdoloemacmbaaa", sum := "0e9c626c1cf9436dc7e230a5421234361ff72b15c505397a210f470d8852dab2", func := "loop.example/g00408/laws.FnFolds", spec := "fnFolds", inPlace := ["slices.overlaps[loop.example/g00408/impl.Change]"], unfollowed := true, recurses := true, plainKeys := false, apart := false }
def FnFoldsSaid : Prop := fnFoldsRow.holds Try.pinned (OpenSpec.ofChange fnFoldsSpec)

/-- ITS FALSE NEIGHBOUR: 'it returns false'. Refute it at one input. -/
def fnFoldsWrong : ChangeSpec := { name := "fnFolds", fn := fun _ => fun
  | [d] => { results := [.lit (.bool false)], args := [d] }
  | _ => none }
def FnFoldsWrongFalsely : Prop := fnFoldsRow.holds Try.pinned (OpenSpec.ofChange fnFoldsWrong)

/-- 'laws.FnExactApplyRecord': WHATEVER THE INPUT: true; the input reads as it did. -/
def fnExactApplyRecordSpec : ChangeSpec := { name := "fnExactApplyRecord", fn := fun _ => fun
  | [d1, d2] => { results := [.lit (.bool true)], args := [d1, d2] }
  | _ => none }
def fnExactApplyRecordRow : OpenClaim := { program := "ytpdoloemacmbaaa", sum := "0e9c626c1cf9436dc7e230a5421234361ff72b15c505397a210f470d8852dab2", func := "loop.example/g00408/laws.FnExactApplyRecord", spec := "fnExactApplyRecord", plainKeys := false, apart := false }
def FnExactApplyRecordSaid : Prop := fnExactApplyRecordRow.holds Try.pinned (OpenSpec.ofChange fnExactApplyRecordSpec)

/-- ITS FALSE NEIGHBOUR: 'it returns false'. Refute it at one input. -/
def fnExactApplyRecordWrong : ChangeSpec := { name := "fnExactApplyRecord", fn := fun _ => fun
  | [d1, d2] => { results := [.lit (.bool false)], args := [d1, d2] }
  | _ => none }
def FnExactApplyRecordWrongFalsely : Prop := fnExactApplyRecordRow.holds Try.pinned (OpenSpec.ofChange fnExactApplyRecordWrong)

/-- 'laws.FnExactTxsFault': WHATEVER THE INPUT: true; the input reads as it did. -/
def fnExactTxsFaultSpec : ChangeSpec := { name := "fnExactTxsFault", fn := fun _ => fun
  | [d] => { results := [.lit (.bool true)], args := [d] }
  | _ => none }
def fnExactTxsFaultRow : OpenClaim := { program := "ytpdoloemacmbaaa", sum := "0e9c626c1cf9436dc7e230a5421234361ff72b15c505397a210f470d8852dab2", func := "loop.example/g00408/laws.FnExactTxsFault", spec := "fnExactTxsFault", plainKeys := false, apart := false }
def FnExactTxsFaultSaid : Prop := fnExactTxsFaultRow.holds Try.pinned (OpenSpec.ofChange fnExactTxsFaultSpec)

/-- ITS FALSE NEIGHBOUR: 'it returns false'. Refute it at one input. -/
def fnExactTxsFaultWrong : ChangeSpec := { name := "fnExactTxsFault", fn := fun _ => fun
  | [d] => { results := [.lit (.bool false)], args := [d] }
  | _ => none }
def FnExactTxsFaultWrongFalsely : Prop := fnExactTxsFaultRow.holds Try.pinned (OpenSpec.ofChange fnExactTxsFaultWrong)

/-- 'laws.FnExactLockOf': WHATEVER THE INPUT: true; the input reads as it did. -/
def fnExactLockOfSpec : ChangeSpec := { name := "fnExactLockOf", fn := fun _ => fun
  | [d1, d2] => { results := [.lit (.bool true)], args := [d1, d2] }
  | _ => none }
def fnExactLockOfRow : OpenClaim := { program := "ytpdoloemacmbaaa", sum := "0e9c626c1cf9436dc7e230a5421234361ff72b15c505397a210f470d8852dab2", func := "loop.example/g00408/laws.FnExactLockOf", spec := "fnExactLockOf", plainKeys := false, apart := false }
def FnExactLockOfSaid : Prop := fnExactLockOfRow.holds Try.pinned (OpenSpec.ofChange fnExactLockOfSpec)

/-- ITS FALSE NEIGHBOUR: 'it returns false'. Refute it at one input. -/
def fnExactLockOfWrong : ChangeSpec := { name := "fnExactLockOf", fn := fun _ => fun
  | [d1, d2] => { results := [.lit (.bool false)], args := [d1, d2] }
  | _ => none }
def FnExactLockOfWrongFalsely : Prop := fnExactLockOfRow.holds Try.pinned (OpenSpec.ofChange fnExactLockOfWrong)

/-- 'laws.FnExactRoomOf': WHATEVER THE INPUT: true; the input reads as it did. -/
def fnExactRoomOfSpec : ChangeSpec := { name := "fnExactRoomOf", fn := fun _ => fun
  | [d1, d2] => { results := [.lit (.bool true)], args := [d1, d2] }
  | _ => none }
def fnExactRoomOfRow : OpenClaim := { program := "ytpdoloemacmbaaa", sum := "0e9c626c1cf9436dc7e230a5421234361ff72b15c505397a210f470d8852dab2", func := "loop.example/g00408/laws.FnExactRoomOf", spec := "fnExactRoomOf", plainKeys := false, apart := false }
def FnExactRoomOfSaid : Prop := fnExactRoomOfRow.holds Try.pinned (OpenSpec.ofChange fnExactRoomOfSpec)

/-- ITS FALSE NEIGHBOUR: 'it returns false'. Refute it at one input. -/
def fnExactRoomOfWrong : ChangeSpec := { name := "fnExactRoomOf", fn := fun _ => fun
  | [d1, d2] => { results := [.lit (.bool false)], args := [d1, d2] }
  | _ => none }
def FnExactRoomOfWrongFalsely : Prop := fnExactRoomOfRow.holds Try.pinned (OpenSpec.ofChange fnExactRoomOfWrong)

/- THE SECOND FORM. 'bulk': how many values and letters a reading holds, each counted each time it is reached (what is shared counts as often as it is met; a slice's spare places count too). A statement '..UptoSaid' is the law's where the arguments, and the package variables that the reading takes, are together of bulk at most 1048576: NARROWER than '..Said'. Prove '..Said' where nothing that the law and all that it calls make is longer than what came in: it says more and counts as full. Else prove '..UptoSaid'. A law counts once. -/
mutual
def uptoBulk {H : Type} : DataW H → Nat
  | .lit (.string bytes) => bytes.length + 1
  | .lit _ => 1
  | .nil => 1
  | .ptr d => uptoBulk d + 1
  | .slice elems spare => uptoBulkAll elems + uptoBulkAll spare + 1
  | .agg parts => uptoBulkAll parts + 1
  | .iface _ d => uptoBulk d + 1
  | .map entries => uptoBulkEntries entries + 1
  | .held _ => 1
def uptoBulkAll {H : Type} : List (DataW H) → Nat
  | [] => 0
  | d :: r => uptoBulk d + uptoBulkAll r
def uptoBulkEntries {H : Type} : List (Lit × DataW H) → Nat
  | [] => 0
  | x :: r => uptoBulkEntry x + uptoBulkEntries r
def uptoBulkEntry {H : Type} : Lit × DataW H → Nat
  | (.string bytes, d) => bytes.length + uptoBulk d + 1
  | (_, d) => uptoBulk d + 1
 end
def uptoSmall : (H : Type) → List (DataW H) → Bool := fun _ ds => decide (uptoBulkAll ds ≤ 1048576)
def OpenSpec.upto (s : _root_.Go.ChangeSpec) : _root_.Go.OpenSpec := { _root_.Go.OpenSpec.ofChange s with cond := some uptoSmall }

/-- 'laws.FnChanges', WHERE WHAT IT READS IS OF BULK AT MOST 1048576: true; the input reads as it did. -/
def fnChangesUptoRow : OpenClaim := { program := "ytpdoloemacmbaaa", sum := "0e9c626c1cf9436dc7e230a5421234361ff72b15c505397a210f470d8852dab2", func := "loop.example/g00408/laws.FnChanges", spec := "fnChanges", unfollowed := true, recurses := true, plainKeys := false, apart := false, narrowed := true }
def FnChangesUptoSaid : Prop := fnChangesUptoRow.holds Try.pinned (OpenSpec.upto fnChangesSpec)

/-- 'laws.FnFolds', WHERE WHAT IT READS IS OF BULK AT MOST 1048576: true; the input reads as it did. -/
def fnFoldsUptoRow : OpenClaim := { program := "ytpdoloemacmbaaa", sum := "0e9c626c1cf9436dc7e230a5421234361ff72b15c505397a210f470d8852dab2", func := "loop.example/g00408/laws.FnFolds", spec := "fnFolds", inPlace := ["slices.overlaps[loop.example/g00408/impl.Change]"], unfollowed := true, recurses := true, plainKeys := false, apart := false, narrowed := true }
def FnFoldsUptoSaid : Prop := fnFoldsUptoRow.holds Try.pinned (OpenSpec.upto fnFoldsSpec)

/-- 'laws.FnExactApplyRecord', WHERE WHAT IT READS IS OF BULK AT MOST 1048576: true; the input reads as it did. -/
def fnExactApplyRecordUptoRow : OpenClaim := { program := "ytpdoloemacmbaaa", sum := "0e9c626c1cf9436dc7e230a5421234361ff72b15c505397a210f470d8852dab2", func := "loop.example/g00408/laws.FnExactApplyRecord", spec := "fnExactApplyRecord", plainKeys := false, apart := false, narrowed := true }
def FnExactApplyRecordUptoSaid : Prop := fnExactApplyRecordUptoRow.holds Try.pinned (OpenSpec.upto fnExactApplyRecordSpec)

/-- 'laws.FnExactTxsFault', WHERE WHAT IT READS IS OF BULK AT MOST 1048576: true; the input reads as it did. -/
def fnExactTxsFaultUptoRow : OpenClaim := { program := "ytpdoloemacmbaaa", sum := "0e9c626c1cf9436dc7e230a5421234361ff72b15c505397a210f470d8852dab2", func := "loop.example/g00408/laws.FnExactTxsFault", spec := "fnExactTxsFault", plainKeys := false, apart := false, narrowed := true }
def FnExactTxsFaultUptoSaid : Prop := fnExactTxsFaultUptoRow.holds Try.pinned (OpenSpec.upto fnExactTxsFaultSpec)

/-- 'laws.FnExactLockOf', WHERE WHAT IT READS IS OF BULK AT MOST 1048576: true; the input reads as it did. -/
def fnExactLockOfUptoRow : OpenClaim := { program := "ytpdoloemacmbaaa", sum := "0e9c626c1cf9436dc7e230a5421234361ff72b15c505397a210f470d8852dab2", func := "loop.example/g00408/laws.FnExactLockOf", spec := "fnExactLockOf", plainKeys := false, apart := false, narrowed := true }
def FnExactLockOfUptoSaid : Prop := fnExactLockOfUptoRow.holds Try.pinned (OpenSpec.upto fnExactLockOfSpec)

/-- 'laws.FnExactRoomOf', WHERE WHAT IT READS IS OF BULK AT MOST 1048576: true; the input reads as it did. -/
def fnExactRoomOfUptoRow : OpenClaim := { program := "ytpdoloemacmbaaa", sum := "0e9c626c1cf9436dc7e230a5421234361ff72b15c505397a210f470d8852dab2", func := "loop.example/g00408/laws.FnExactRoomOf", spec := "fnExactRoomOf", plainKeys := false, apart := false, narrowed := true }
def FnExactRoomOfUptoSaid : Prop := fnExactRoomOfUptoRow.holds Try.pinned (OpenSpec.upto fnExactRoomOfSpec)

end Rows
end Go.Proofs.Ytpdoloemacmbaaa
