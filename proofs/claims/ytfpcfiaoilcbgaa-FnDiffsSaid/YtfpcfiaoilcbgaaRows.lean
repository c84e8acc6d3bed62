/-
  No cell of these rows narrows 'for every input' (looked for: loops, veiled, ifaces, maps, wideKeys, modest, calm, conditions, laid).
  DERIVED. THE GIVEN ROWS OF THIS SEAT. 9 by the template 'for every input the law returns true; each argument reads behind the call as it read before'; 0 by the template 'total and deterministic' (their statements: YtfpcfiaoilcbgaaTotals.lean).
  GIVEN WITH THE SEED: the statements are not yours to turn. If you find one false, say at which input.
  Laid BY PROGRAM, IN A SANDBOX (cutbox-rows.mjs): the forced cells as the released guide's own fill.sh prints them over the translation 045d003aa1ef12f7… (all of the seat's roots in one cut). By AI agents, Wed Nov 11 2026. No macro, syntax, notation, axiom, sorry.
-/
import Derived.Test.YtfpcfiaoilcbgaaChecked
import GoSem.Claim
import GoSem.ClaimJoined
import GoSem.ClaimMapViews
import Derived.JoinedTies
import Derived.KernelRfl
namespace Go.Proofs.Ytfpcfiaoilcbgaa
/- THE CELL 'sum', in the pinned program and in every row, IS THE sha256 OF THE DUMP (.gsa) THAT YtfpcfiaoilcbgaaProg.lean LOADS. Nothing in Lean hashes anything: it is a label: what it is worth is what the hold of that sum in a sandbox is worth. -/
noncomputable def Try.pinned : Pinned := { name := "ytfpcfiaoilcbgaa", sum := "045d003aa1ef12f7f46f463a8eb3609b7b3500919580158c9b57a85b41fc82c0", checked := Try.checked }
namespace Rows
def none {H : Type} : Left H := { results := [], args := [] }

/-- 'laws.FnExactLongestIn': WHATEVER THE INPUT: true; the input reads as it did. -/
def fnExactLongestInSpec : ChangeSpec := { name := "fnExactLongestIn", fn := fun _ => fun
  | [d1, d2] => { results := [.lit (.bool true)], args := [d1, d2] }
  | _ => none }
def fnExactLongestInRow : OpenClaim := { program := "ytfpcfiaoilcbgaa", sum := "045d003aa1ef12f7f46f463a8eb3609b7b3500919580158c9b57a85b41fc82c0", func := "loop.example/g00408/laws.FnExactLongestIn", spec := "fnExactLongestIn", apart := false }
def FnExactLongestInSaid : Prop := fnExactLongestInRow.holds Try.pinned (OpenSpec.ofChange fnExactLongestInSpec)

/-- ITS FALSE NEIGHBOUR: 'it returns false'. Refute it at one input. -/
def fnExactLongestInWrong : ChangeSpec := { name := "fnExactLongestIn", fn := fun _ => fun
  | [d1, d2] => { results := [.lit (.bool false)], args := [d1, d2] }
  | _ => none }
def FnExactLongestInWrongFalsely : Prop := fnExactLongestInRow.holds Try.pinned (OpenSpec.ofChange fnExactLongestInWrong)

/-- 'laws.FnExactTablesIn': WHATEVER THE INPUT: true; the input reads as it did. -/
def fnExactTablesInSpec : ChangeSpec := { name := "fnExactTablesIn", fn := fun _ => fun
  | [d] => { results := [.lit (.bool true)], args := [d] }
  | _ => none }
def fnExactTablesInRow : OpenClaim := { program := "ytfpcfiaoilcbgaa", sum := "045d003aa1ef12f7f46f463a8eb3609b7b3500919580158c9b57a85b41fc82c0", func := "loop.example/g00408/laws.FnExactTablesIn", spec := "fnExactTablesIn", apart := false }
def FnExactTablesInSaid : Prop := fnExactTablesInRow.holds Try.pinned (OpenSpec.ofChange fnExactTablesInSpec)

/-- ITS FALSE NEIGHBOUR: 'it returns false'. Refute it at one input. -/
def fnExactTablesInWrong : ChangeSpec := { name := "fnExactTablesIn", fn := fun _ => fun
  | [d] => { results := [.lit (.bool false)], args := [d] }
  | _ => none }
def FnExactTablesInWrongFalsely : Prop := fnExactTablesInRow.holds Try.pinned (OpenSpec.ofChange fnExactTablesInWrong)

/-- 'laws.FnExactMayBe': WHATEVER THE INPUT: true; the input reads as it did. -/
def fnExactMayBeSpec : ChangeSpec := { name := "fnExactMayBe", fn := fun _ => fun
  | [d1, d2] => { results := [.lit (.bool true)], args := [d1, d2] }
  | _ => none }
def fnExactMayBeRow : OpenClaim := { program := "ytfpcfiaoilcbgaa", sum := "045d003aa1ef12f7f46f463a8eb3609b7b3500919580158c9b57a85b41fc82c0", func := "loop.example/g00408/laws.FnExactMayBe", spec := "fnExactMayBe", apart := false }
def FnExactMayBeSaid : Prop := fnExactMayBeRow.holds Try.pinned (OpenSpec.ofChange fnExactMayBeSpec)

/-- ITS FALSE NEIGHBOUR: 'it returns false'. Refute it at one input. -/
def fnExactMayBeWrong : ChangeSpec := { name := "fnExactMayBe", fn := fun _ => fun
  | [d1, d2] => { results := [.lit (.bool false)], args := [d1, d2] }
  | _ => none }
def FnExactMayBeWrongFalsely : Prop := fnExactMayBeRow.holds Try.pinned (OpenSpec.ofChange fnExactMayBeWrong)

/-- 'laws.FnExactInverseOf': WHATEVER THE INPUT: true; the input reads as it did. -/
def fnExactInverseOfSpec : ChangeSpec := { name := "fnExactInverseOf", fn := fun _ => fun
  | [d] => { results := [.lit (.bool true)], args := [d] }
  | _ => none }
def fnExactInverseOfRow : OpenClaim := { program := "ytfpcfiaoilcbgaa", sum := "045d003aa1ef12f7f46f463a8eb3609b7b3500919580158c9b57a85b41fc82c0", func := "loop.example/g00408/laws.FnExactInverseOf", spec := "fnExactInverseOf", apart := false }
def FnExactInverseOfSaid : Prop := fnExactInverseOfRow.holds Try.pinned (OpenSpec.ofChange fnExactInverseOfSpec)

/-- ITS FALSE NEIGHBOUR: 'it returns false'. Refute it at one input. -/
def fnExactInverseOfWrong : ChangeSpec := { name := "fnExactInverseOf", fn := fun _ => fun
  | [d] => { results := [.lit (.bool false)], args := [d] }
  | _ => none }
def FnExactInverseOfWrongFalsely : Prop := fnExactInverseOfRow.holds Try.pinned (OpenSpec.ofChange fnExactInverseOfWrong)

/-- 'laws.FnExactChangesOf': WHATEVER THE INPUT: true; the input reads as it did. -/
def fnExactChangesOfSpec : ChangeSpec := { name := "fnExactChangesOf", fn := fun _ => fun
  | [d1, d2] => { results := [.lit (.bool true)], args := [d1, d2] }
  | _ => none }
def fnExactChangesOfRow : OpenClaim := { program := "ytfpcfiaoilcbgaa", sum := "045d003aa1ef12f7f46f463a8eb3609b7b3500919580158c9b57a85b41fc82c0", func := "loop.example/g00408/laws.FnExactChangesOf", spec := "fnExactChangesOf", apart := false }
def FnExactChangesOfSaid : Prop := fnExactChangesOfRow.holds Try.pinned (OpenSpec.ofChange fnExactChangesOfSpec)

/-- ITS FALSE NEIGHBOUR: 'it returns false'. Refute it at one input. -/
def fnExactChangesOfWrong : ChangeSpec := { name := "fnExactChangesOf", fn := fun _ => fun
  | [d1, d2] => { results := [.lit (.bool false)], args := [d1, d2] }
  | _ => none }
def FnExactChangesOfWrongFalsely : Prop := fnExactChangesOfRow.holds Try.pinned (OpenSpec.ofChange fnExactChangesOfWrong)

/-- 'laws.FnExactApplyChanges': WHATEVER THE INPUT: true; the input reads as it did. -/
def fnExactApplyChangesSpec : ChangeSpec := { name := "fnExactApplyChanges", fn := fun _ => fun
  | [d1, d2] => { results := [.lit (.bool true)], args := [d1, d2] }
  | _ => none }
def fnExactApplyChangesRow : OpenClaim := { program := "ytfpcfiaoilcbgaa", sum := "045d003aa1ef12f7f46f463a8eb3609b7b3500919580158c9b57a85b41fc82c0", func := "loop.example/g00408/laws.FnExactApplyChanges", spec := "fnExactApplyChanges", unfollowed := true, recurses := true, apart := false }
def FnExactApplyChangesSaid : Prop := fnExactApplyChangesRow.holds Try.pinned (OpenSpec.ofChange fnExactApplyChangesSpec)

/-- ITS FALSE NEIGHBOUR: 'it returns false'. Refute it at one input. -/
def fnExactApplyChangesWrong : ChangeSpec := { name := "fnExactApplyChanges", fn := fun _ => fun
  | [d1, d2] => { results := [.lit (.bool false)], args := [d1, d2] }
  | _ => none }
def FnExactApplyChangesWrongFalsely : Prop := fnExactApplyChangesRow.holds Try.pinned (OpenSpec.ofChange fnExactApplyChangesWrong)

/-- 'laws.FnExactFoldChange': WHATEVER THE INPUT: true; the input reads as it did. -/
def fnExactFoldChangeSpec : ChangeSpec := { name := "fnExactFoldChange", fn := fun _ => fun
  | [d1, d2] => { results := [.lit (.bool true)], args := [d1, d2] }
  | _ => none }
def fnExactFoldChangeRow : OpenClaim := { program := "ytfpcfiaoilcbgaa", sum := "045d003aa1ef12f7f46f463a8eb3609b7b3500919580158c9b57a85b41fc82c0", func := "loop.example/g00408/laws.FnExactFoldChange", spec := "fnExactFoldChange", inPlace := ["slices.overlaps[loop.example/g00408/impl.Change]"], unfollowed := true, recurses := true, apart := false }
def FnExactFoldChangeSaid : Prop := fnExactFoldChangeRow.holds Try.pinned (OpenSpec.ofChange fnExactFoldChangeSpec)

/-- ITS FALSE NEIGHBOUR: 'it returns false'. Refute it at one input. -/
def fnExactFoldChangeWrong : ChangeSpec := { name := "fnExactFoldChange", fn := fun _ => fun
  | [d1, d2] => { results := [.lit (.bool false)], args := [d1, d2] }
  | _ => none }
def FnExactFoldChangeWrongFalsely : Prop := fnExactFoldChangeRow.holds Try.pinned (OpenSpec.ofChange fnExactFoldChangeWrong)

/-- 'laws.FnExactApplyEdits': WHATEVER THE INPUT: true; the input reads as it did. -/
def fnExactApplyEditsSpec : ChangeSpec := { name := "fnExactApplyEdits", fn := fun _ => fun
  | [d1, d2] => { results := [.lit (.bool true)], args := [d1, d2] }
  | _ => none }
def fnExactApplyEditsRow : OpenClaim := { program := "ytfpcfiaoilcbgaa", sum := "045d003aa1ef12f7f46f463a8eb3609b7b3500919580158c9b57a85b41fc82c0", func := "loop.example/g00408/laws.FnExactApplyEdits", spec := "fnExactApplyEdits", apart := false }
def FnExactApplyEditsSaid : Prop := fnExactApplyEditsRow.holds Try.pinned (OpenSpec.ofChange fnExactApplyEditsSpec)

/-- ITS FALSE NEIGHBOUR: 'it returns false'. Refute it at one input. -/
def fnExactApplyEditsWrong : ChangeSpec := { name := "fnExactApplyEdits", fn := fun _ => fun
  | [d1, d2] => { results := [.lit (.bool false)], args := [d1, d2] }
  | _ => none }
def FnExactApplyEditsWrongFalsely : Prop := fnExactApplyEditsRow.holds Try.pinned (OpenSpec.ofChange fnExactApplyEditsWrong)

/-- 'laws.FnDiffs': WHATEVER THE INPUT: true; the input reads as it did. -/
def fnDiffsSpec : ChangeSpec := { name := "fnDiffs", fn := fun _ => fun
  | [d] => { results := [.lit (.bool true)], args := [d] }
  | _ => none }
def fnDiffsRow : OpenClaim := { program := "ytfpcfiaoilcbgaa", sum := "045d003aa1ef12f7f46f463a8eb3609b7b3500919580158c9b57a85b41fc82c0", func := "loop.example/g00408/laws.FnDiffs", spec := "fnDiffs", apart := false }
def FnDiffsSaid : Prop := fnDiffsRow.holds Try.pinned (OpenSpec.ofChange fnDiffsSpec)

/-- ITS FALSE NEIGHBOUR: 'it returns false'. Refute it at one input. -/
def fnDiffsWrong : ChangeSpec := { name := "fnDiffs", fn := fun _ => fun
  | [d] => { results := [.lit (.bool false)], args := [d] }
  | _ => none }
def FnDiffsWrongFalsely : Prop := fnDiffsRow.holds Try.pinned (OpenSpec.ofChange fnDiffsWrong)

/- THE SECOND FORM. 'bulk': how many values and letters a reading holds, each counted each time it is reached (what is shared counts as often as it is met; a slice's spare places count too). A statement '..UptoSaid' is the law's where the arguments, and the package variables that the reading takes, are together of bulk at most 1048576: NARROWER than '..Said'. Prove '..Said' where nothing that the law and all that it calls make is longer than what came in: it says more and counts as full. Else prove '..UptoSaid'. A law counts once. -/
mutual
def uptoBulk {H : Type} : DataW H → Nat
  | .lit (.string bytes) => bytes.length + 1
  | .lit _ => 1
  | .nil => 1
  | .ptr d => uptoBulk d + 1
  | .slice elems spare => uptoBulkAll elems + uptoBulkAll spare + 1
  | .agg parts => uptoBulkAll parts + 1
  | .iface _ d => uptoBulk d + 1
  | .map entries => uptoBulkEntries entries + 1
  | .held _ => 1
def uptoBulkAll {H : Type} : List (DataW H) → Nat
  | [] => 0
  | d :: r => uptoBulk d + uptoBulkAll r
def uptoBulkEntries {H : Type} : List (Lit × DataW H) → Nat
  | [] => 0
  | x :: r => uptoBulkEntry x + uptoBulkEntries r
def uptoBulkEntry {H : Type} : Lit × DataW H → Nat
  | (.string bytes, d) => bytes.length + uptoBulk d + 1
  | (_, d) => uptoBulk d + 1
 end
def uptoSmall : (H : Type) → List (DataW H) → Bool := fun _ ds => decide (uptoBulkAll ds ≤ 1048576)
def OpenSpec.upto (s : _root_.Go.ChangeSpec) : _root_.Go.OpenSpec := { _root_.Go.OpenSpec.ofChange s with cond := some uptoSmall }

/-- 'laws.FnExactLongestIn', WHERE WHAT IT READS IS OF BULK AT MOST 1048576: true; the input reads as it did. -/
def fnExactLongestInUptoRow : OpenClaim := { program := "ytfpcfiaoilcbgaa", sum := "045d003aa1ef12f7f46f463a8eb3609b7b3500919580158c9b57a85b41fc82c0", func := "loop.example/g00408/laws.FnExactLongestIn", spec := "fnExactLongestIn", apart := false, narrowed := true }
def FnExactLongestInUptoSaid : Prop := fnExactLongestInUptoRow.holds Try.pinned (OpenSpec.upto fnExactLongestInSpec)

/-- 'laws.FnExactTablesIn', WHERE WHAT IT READS IS OF BULK AT MOST 1048576: true; the input reads as it did. -/
def fnExactTablesInUptoRow : OpenClaim := { program := "ytfpcfiaoilcbgaa", sum := "045d003aa1ef12f7f46f463a8eb3609b7b3500919580158c9b57a85b41fc82c0", func := "loop.example/g00408/laws.FnExactTablesIn", spec := "fnExactTablesIn", apart := false, narrowed := true }
def FnExactTablesInUptoSaid : Prop := fnExactTablesInUptoRow.holds Try.pinned (OpenSpec.upto fnExactTablesInSpec)

/-- 'laws.FnExactMayBe', WHERE WHAT IT READS IS OF BULK AT MOST 1048576: true; the input reads as it did. -/
def fnExactMayBeUptoRow : OpenClaim := { program := "ytfpcfiaoilcbgaa", sum := "045d003aa1ef12f7f46f463a8eb3609b7b3500919580158c9b57a85b41fc82c0", func := "loop.example/g00408/laws.FnExactMayBe", spec := "fnExactMayBe", apart := false, narrowed := true }
def FnExactMayBeUptoSaid : Prop := fnExactMayBeUptoRow.holds Try.pinned (OpenSpec.upto fnExactMayBeSpec)

/-- 'laws.FnExactInverseOf', WHERE WHAT IT READS IS OF BULK AT MOST 1048576: true; the input reads as it did. -/
def fnExactInverseOfUptoRow : OpenClaim := { program := "ytfpcfiaoilcbgaa", sum := "045d003aa1ef12f7f46f463a8eb3609b7b3500919580158c9b57a85b41fc82c0", func := "loop.example/g00408/laws.FnExactInverseOf", spec := "fnExactInverseOf", apart := false, narrowed := true }
def FnExactInverseOfUptoSaid : Prop := fnExactInverseOfUptoRow.holds Try.pinned (OpenSpec.upto fnExactInverseOfSpec)

/-- 'laws.FnExactChangesOf', WHERE WHAT IT READS IS OF BULK AT MOST 1048576: true; the input reads as it did. -/
def fnExactChangesOfUptoRow : OpenClaim := { program := "ytfpcfiaoilcbgaa", sum := "045d003aa1ef12f7f46f463a8eb3609b7b3500919580158c9b57a85b41fc82c0", func := "loop.example/g00408/laws.FnExactChangesOf", spec := "fnExactChangesOf", apart := false, narrowed := true }
def FnExactChangesOfUptoSaid : Prop := fnExactChangesOfUptoRow.holds Try.pinned (OpenSpec.upto fnExactChangesOfSpec)

/-- 'laws.FnExactApplyChanges', WHERE WHAT IT READS IS OF BULK AT MOST 1048576: true; the input reads as it did. -/
def fnExactApplyChangesUptoRow : OpenClaim := { program := "ytfpcfiaoilcbgaa", sum := "045d003aa1ef12f7f46f463a8eb3609b7b3500919580158c9b57a85b41fc82c0", func := "loop.example/g00408/laws.FnExactApplyChanges", spec := "fnExactApplyChanges", unfollowed := true, recurses := true, apart := false, narrowed := true }
def FnExactApplyChangesUptoSaid : Prop := fnExactApplyChangesUptoRow.holds Try.pinned (OpenSpec.upto fnExactApplyChangesSpec)

/-- 'laws.FnExactFoldChange', WHERE WHAT IT READS IS OF BULK AT MOST 1048576: true; the input reads as it did. -/
def fnExactFoldChangeUptoRow : OpenClaim := { program := "ytfpcfiaoilcbgaa", sum := "045d003aa1ef12f7f46f463a8eb3609b7b3500919580158c9b57a85b41fc82c0", func := "loop.example/g00408/laws.FnExactFoldChange", spec := "fnExactFoldChange", inPlace := ["slices.overlaps[loop.example/g00408/impl.Change]"], unfollowed := true, recurses := true, apart := false, narrowed := true }
def FnExactFoldChangeUptoSaid : Prop := fnExactFoldChangeUptoRow.holds Try.pinned (OpenSpec.upto fnExactFoldChangeSpec)

/-- 'laws.FnExactApplyEdits', WHERE WHAT IT READS IS OF BULK AT MOST 1048576: true; the input reads as it did. -/
def fnExactApplyEditsUptoRow : OpenClaim := { program := "ytfpcfiaoilcbgaa", sum := "045d003aa1ef12f7f46f463a8eb3609b7b3500919580158c9b57a85b41fc82c0", func := "loop.example/g00408/laws.FnExactApplyEdits", spec := "fnExactApplyEdits", apart := false, narrowed := true }
def FnExactApplyEditsUptoSaid : Prop := fnExactApplyEditsUptoRow.holds Try.pinned (OpenSpec.upto fnExactApplyEditsSpec)

/-- 'laws.FnDiffs', WHERE WHAT IT READS IS OF BULK AT MOST 1048576: true; the input reads as it did. -/
def fnDiffsUptoRow : OpenClaim := { program := "ytfpcfiaoilcbgaa", sum := "045d003aa1ef12f7f46f463a8eb3609b7b3500919580158c9b57a85b41fc82c0", func := "loop.example/g00408/laws.FnDiffs", spec := "fnDiffs", apart := false, narrowed := true }
def FnDiffsUptoSaid : Prop := fnDiffsUptoRow.holds Try.pinned (OpenSpec.upto fnDiffsSpec)

end Rows
end Go.Proofs.Ytfpcfiaoilcbgaa
