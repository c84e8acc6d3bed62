/-
  No cell of these rows narrows 'for every input' (looked for: loops, veiled, ifaces, maps, wideKeys, modest, calm, conditions, laid).
  DERIVED. THE GIVEN ROWS OF THIS SEAT. 12 by the template 'for every input the law returns true; each argument reads behind the call as it read before'; 0 by the template 'total and deterministic' (their statements: YtnidgolbfmbocaaTotals.lean).
  GIVEN WITH THE SEED: the statements are not yours to turn. If you find one false, say at which input.
  Laid BY PROGRAM, IN A SANDBOX (cutbox-rows.mjs): the forced cells as the released guide's own fill.sh prints them over the translation ccdcd103496c139b… (all of the seat's roots in one cut). By AI agents, Wed Nov 11 2026. No macro, syntax, notation, axiom, sorry.
-/
import Derived.Test.YtnidgolbfmbocaaChecked
import GoSem.Claim
import GoSem.ClaimJoined
import GoSem.ClaimMapViews
import Derived.JoinedTies
import Derived.KernelRfl
namespace Go.Proofs.Ytnidgolbfmbocaa
/- THE CELL 'sum', in the pinned program and in every row, IS THE sha256 OF THE DUMP (.gsa) THAT YtnidgolbfmbocaaProg.lean LOADS. Nothing in Lean hashes anything: it is a label: what it is worth is what the hold of that sum in a sandbox is worth. -/
noncomputable def Try.pinned : Pinned := { name := "ytnidgolbfmbocaa", sum := "ccdcd103496c139b68d6e71a0f5d04c46d5102344120deccc35fbedb63caefd3", checked := Try.checked }
namespace Rows
def none {H : Type} : Left H := { results := [], args := [] }

/-- 'laws.FnExactSlotIn': WHATEVER THE INPUT: true; the input reads as it did. -/
def fnExactSlotInSpec : ChangeSpec := { name := "fnExactSlotIn", fn := fun _ => fun
  | [d1, d2] => { results := [.lit (.bool true)], args := [d1, d2] }
  | _ => none }
def fnExactSlotInRow : OpenClaim := { program := "ytnidgolbfmbocaa", sum := "ccdcd103496c139b68d6e71a0f5d04c46d5102344120deccc35fbedb63caefd3", func := "loop.example/g00408/laws.FnExactSlotIn", spec := "fnExactSlotIn", apart := false }
def FnExactSlotInSaid : Prop := fnExactSlotInRow.holds Try.pinned (OpenSpec.ofChange fnExactSlotInSpec)

/-- ITS FALSE NEIGHBOUR: 'it returns false'. Refute it at one input. -/
def fnExactSlotInWrong : ChangeSpec := { name := "fnExactSlotIn", fn := fun _ => fun
  | [d1, d2] => { results := [.lit (.bool false)], args := [d1, d2] }
  | _ => none }
def FnExactSlotInWrongFalsely : Prop := fnExactSlotInRow.holds Try.pinned (OpenSpec.ofChange fnExactSlotInWrong)

/-- 'laws.FnExactDropSlot': WHATEVER THE INPUT: true; the input reads as it did. -/
def fnExactDropSlotSpec : ChangeSpec := { name := "fnExactDropSlot", fn := fun _ => fun
  | [d1, d2] => { results := [.lit (.bool true)], args := [d1, d2] }
  | _ => none }
def fnExactDropSlotRow : OpenClaim := { program := "ytnidgolbfmbocaa", sum := "ccdcd103496c139b68d6e71a0f5d04c46d5102344120deccc35fbedb63caefd3", func := "loop.example/g00408/laws.FnExactDropSlot", spec := "fnExactDropSlot", apart := false }
def FnExactDropSlotSaid : Prop := fnExactDropSlotRow.holds Try.pinned (OpenSpec.ofChange fnExactDropSlotSpec)

/-- ITS FALSE NEIGHBOUR: 'it returns false'. Refute it at one input. -/
def fnExactDropSlotWrong : ChangeSpec := { name := "fnExactDropSlot", fn := fun _ => fun
  | [d1, d2] => { results := [.lit (.bool false)], args := [d1, d2] }
  | _ => none }
def FnExactDropSlotWrongFalsely : Prop := fnExactDropSlotRow.holds Try.pinned (OpenSpec.ofChange fnExactDropSlotWrong)

/-- 'laws.FnExactCompactPage': WHATEVER THE INPUT: true; the input reads as it did. -/
def fnExactCompactPageSpec : ChangeSpec := { name := "fnExactCompactPage", fn := fun _ => fun
  | [d] => { results := [.lit (.bool true)], args := [d] }
  | _ => none }
def fnExactCompactPageRow : OpenClaim := { program := "ytnidgolbfmbocaa", sum := "ccdcd103496c139b68d6e71a0f5d04c46d5102344120deccc35fbedb63caefd3", func := "loop.example/g00408/laws.FnExactCompactPage", spec := "fnExactCompactPage", apart := false }
def FnExactCompactPageSaid : Prop := fnExactCompactPageRow.holds Try.pinned (OpenSpec.ofChange fnExactCompactPageSpec)

/-- ITS FALSE NEIGHBOUR: 'it returns false'. Refute it at one input. -/
def fnExactCompactPageWrong : ChangeSpec := { name := "fnExactCompactPage", fn := fun _ => fun
  | [d] => { results := [.lit (.bool false)], args := [d] }
  | _ => none }
def FnExactCompactPageWrongFalsely : Prop := fnExactCompactPageRow.holds Try.pinned (OpenSpec.ofChange fnExactCompactPageWrong)

/-- 'laws.FnExactSetSlot': WHATEVER THE INPUT: true; the input reads as it did. -/
def fnExactSetSlotSpec : ChangeSpec := { name := "fnExactSetSlot", fn := fun _ => fun
  | [d1, d2, d3] => { results := [.lit (.bool true)], args := [d1, d2, d3] }
  | _ => none }
def fnExactSetSlotRow : OpenClaim := { program := "ytnidgolbfmbocaa", sum := "ccdcd103496c139b68d6e71a0f5d04c46d5102344120deccc35fbedb63caefd3", func := "loop.example/g00408/laws.FnExactSetSlot", spec := "fnExactSetSlot", apart := false }
def FnExactSetSlotSaid : Prop := fnExactSetSlotRow.holds Try.pinned (OpenSpec.ofChange fnExactSetSlotSpec)

/-- ITS FALSE NEIGHBOUR: 'it returns false'. Refute it at one input. -/
def fnExactSetSlotWrong : ChangeSpec := { name := "fnExactSetSlot", fn := fun _ => fun
  | [d1, d2, d3] => { results := [.lit (.bool false)], args := [d1, d2, d3] }
  | _ => none }
def FnExactSetSlotWrongFalsely : Prop := fnExactSetSlotRow.holds Try.pinned (OpenSpec.ofChange fnExactSetSlotWrong)

/-- 'laws.FnExactPutSlot': WHATEVER THE INPUT: true; the input reads as it did. -/
def fnExactPutSlotSpec : ChangeSpec := { name := "fnExactPutSlot", fn := fun _ => fun
  | [d1, d2] => { results := [.lit (.bool true)], args := [d1, d2] }
  | _ => none }
def fnExactPutSlotRow : OpenClaim := { program := "ytnidgolbfmbocaa", sum := "ccdcd103496c139b68d6e71a0f5d04c46d5102344120deccc35fbedb63caefd3", func := "loop.example/g00408/laws.FnExactPutSlot", spec := "fnExactPutSlot", apart := false }
def FnExactPutSlotSaid : Prop := fnExactPutSlotRow.holds Try.pinned (OpenSpec.ofChange fnExactPutSlotSpec)

/-- ITS FALSE NEIGHBOUR: 'it returns false'. Refute it at one input. -/
def fnExactPutSlotWrong : ChangeSpec := { name := "fnExactPutSlot", fn := fun _ => fun
  | [d1, d2] => { results := [.lit (.bool false)], args := [d1, d2] }
  | _ => none }
def FnExactPutSlotWrongFalsely : Prop := fnExactPutSlotRow.holds Try.pinned (OpenSpec.ofChange fnExactPutSlotWrong)

/-- 'laws.FnPuts': WHATEVER THE INPUT: true; the input reads as it did. -/
def fnPutsSpec : ChangeSpec := { name := "fnPuts", fn := fun _ => fun
  | [d] => { results := [.lit (.bool true)], args := [d] }
  | _ => none }
def fnPutsRow : OpenClaim := { program := "ytnidgolbfmbocaa", sum := "ccdcd103496c139b68d6e71a0f5d04c46d5102344120deccc35fbedb63caefd3", func := "loop.example/g00408/laws.FnPuts", spec := "fnPuts", apart := false }
def FnPutsSaid : Prop := fnPutsRow.holds Try.pinned (OpenSpec.ofChange fnPutsSpec)

/-- ITS FALSE NEIGHBOUR: 'it returns false'. Refute it at one input. -/
def fnPutsWrong : ChangeSpec := { name := "fnPuts", fn := fun _ => fun
  | [d] => { results := [.lit (.bool false)], args := [d] }
  | _ => none }
def FnPutsWrongFalsely : Prop := fnPutsRow.holds Try.pinned (OpenSpec.ofChange fnPutsWrong)

/-- 'laws.FnCompacts': WHATEVER THE INPUT: true; the input reads as it did. -/
def fnCompactsSpec : ChangeSpec := { name := "fnCompacts", fn := fun _ => fun
  | [d] => { results := [.lit (.bool true)], args := [d] }
  | _ => none }
def fnCompactsRow : OpenClaim := { program := "ytnidgolbfmbocaa", sum := "ccdcd103496c139b68d6e71a0f5d04c46d5102344120deccc35fbedb63caefd3", func := "loop.example/g00408/laws.FnCompacts", spec := "fnCompacts", apart := false }
def FnCompactsSaid : Prop := fnCompactsRow.holds Try.pinned (OpenSpec.ofChange fnCompactsSpec)

/-- ITS FALSE NEIGHBOUR: 'it returns false'. Refute it at one input. -/
def fnCompactsWrong : ChangeSpec := { name := "fnCompacts", fn := fun _ => fun
  | [d] => { results := [.lit (.bool false)], args := [d] }
  | _ => none }
def FnCompactsWrongFalsely : Prop := fnCompactsRow.holds Try.pinned (OpenSpec.ofChange fnCompactsWrong)

/-- 'laws.FnSets': WHATEVER THE INPUT: true; the input reads as it did. -/
def fnSetsSpec : ChangeSpec := { name := "fnSets", fn := fun _ => fun
  | [d] => { results := [.lit (.bool true)], args := [d] }
  | _ => none }
def fnSetsRow : OpenClaim := { program := "ytnidgolbfmbocaa", sum := "ccdcd103496c139b68d6e71a0f5d04c46d5102344120deccc35fbedb63caefd3", func := "loop.example/g00408/laws.FnSets", spec := "fnSets", apart := false }
def FnSetsSaid : Prop := fnSetsRow.holds Try.pinned (OpenSpec.ofChange fnSetsSpec)

/-- ITS FALSE NEIGHBOUR: 'it returns false'. Refute it at one input. -/
def fnSetsWrong : ChangeSpec := { name := "fnSets", fn := fun _ => fun
  | [d] => { results := [.lit (.bool false)], args := [d] }
  | _ => none }
def FnSetsWrongFalsely : Prop := fnSetsRow.holds Try.pinned (OpenSpec.ofChange fnSetsWrong)

/-- 'laws.FnCells': WHATEVER THE INPUT: true; the input reads as it did. -/
def fnCellsSpec : ChangeSpec := { name := "fnCells", fn := fun _ => fun
  | [d] => { results := [.lit (.bool true)], args := [d] }
  | _ => none }
def fnCellsRow : OpenClaim := { program := "ytnidgolbfmbocaa", sum := "ccdcd103496c139b68d6e71a0f5d04c46d5102344120deccc35fbedb63caefd3", func := "loop.example/g00408/laws.FnCells", spec := "fnCells", apart := false }
def FnCellsSaid : Prop := fnCellsRow.holds Try.pinned (OpenSpec.ofChange fnCellsSpec)

/-- ITS FALSE NEIGHBOUR: 'it returns false'. Refute it at one input. -/
def fnCellsWrong : ChangeSpec := { name := "fnCells", fn := fun _ => fun
  | [d] => { results := [.lit (.bool false)], args := [d] }
  | _ => none }
def FnCellsWrongFalsely : Prop := fnCellsRow.holds Try.pinned (OpenSpec.ofChange fnCellsWrong)

/-- 'laws.FnExactDiffBytes': WHATEVER THE INPUT: true; the input reads as it did. -/
def fnExactDiffBytesSpec : ChangeSpec := { name := "fnExactDiffBytes", fn := fun _ => fun
  | [d1, d2] => { results := [.lit (.bool true)], args := [d1, d2] }
  | _ => none }
def fnExactDiffBytesRow : OpenClaim := { program := "ytnidgolbfmbocaa", sum := "ccdcd103496c139b68d6e71a0f5d04c46d5102344120deccc35fbedb63caefd3", func := "loop.example/g00408/laws.FnExactDiffBytes", spec := "fnExactDiffBytes", apart := false }
def FnExactDiffBytesSaid : Prop := fnExactDiffBytesRow.holds Try.pinned (OpenSpec.ofChange fnExactDiffBytesSpec)

/-- ITS FALSE NEIGHBOUR: 'it returns false'. Refute it at one input. -/
def fnExactDiffBytesWrong : ChangeSpec := { name := "fnExactDiffBytes", fn := fun _ => fun
  | [d1, d2] => { results := [.lit (.bool false)], args := [d1, d2] }
  | _ => none }
def FnExactDiffBytesWrongFalsely : Prop := fnExactDiffBytesRow.holds Try.pinned (OpenSpec.ofChange fnExactDiffBytesWrong)

/-- 'laws.FnExactApplyRuns': WHATEVER THE INPUT: true; the input reads as it did. -/
def fnExactApplyRunsSpec : ChangeSpec := { name := "fnExactApplyRuns", fn := fun _ => fun
  | [d1, d2] => { results := [.lit (.bool true)], args := [d1, d2] }
  | _ => none }
def fnExactApplyRunsRow : OpenClaim := { program := "ytnidgolbfmbocaa", sum := "ccdcd103496c139b68d6e71a0f5d04c46d5102344120deccc35fbedb63caefd3", func := "loop.example/g00408/laws.FnExactApplyRuns", spec := "fnExactApplyRuns", apart := false }
def FnExactApplyRunsSaid : Prop := fnExactApplyRunsRow.holds Try.pinned (OpenSpec.ofChange fnExactApplyRunsSpec)

/-- ITS FALSE NEIGHBOUR: 'it returns false'. Refute it at one input. -/
def fnExactApplyRunsWrong : ChangeSpec := { name := "fnExactApplyRuns", fn := fun _ => fun
  | [d1, d2] => { results := [.lit (.bool false)], args := [d1, d2] }
  | _ => none }
def FnExactApplyRunsWrongFalsely : Prop := fnExactApplyRunsRow.holds Try.pinned (OpenSpec.ofChange fnExactApplyRunsWrong)

/-- 'laws.FnExactInverseRuns': WHATEVER THE INPUT: true; the input reads as it did. -/
def fnExactInverseRunsSpec : ChangeSpec := { name := "fnExactInverseRuns", fn := fun _ => fun
  | [d1, d2] => { results := [.lit (.bool true)], args := [d1, d2] }
  | _ => none }
def fnExactInverseRunsRow : OpenClaim := { program := "ytnidgolbfmbocaa", sum := "ccdcd103496c139b68d6e71a0f5d04c46d5102344120deccc35fbedb63caefd3", func := "loop.example/g00408/laws.FnExactInverseRuns", spec := "fnExactInverseRuns", apart := false }
def FnExactInverseRunsSaid : Prop := fnExactInverseRunsRow.holds Try.pinned (OpenSpec.ofChange fnExactInverseRunsSpec)

/-- ITS FALSE NEIGHBOUR: 'it returns false'. Refute it at one input. -/
def fnExactInverseRunsWrong : ChangeSpec := { name := "fnExactInverseRuns", fn := fun _ => fun
  | [d1, d2] => { results := [.lit (.bool false)], args := [d1, d2] }
  | _ => none }
def FnExactInverseRunsWrongFalsely : Prop := fnExactInverseRunsRow.holds Try.pinned (OpenSpec.ofChange fnExactInverseRunsWrong)

/- THE SECOND FORM. 'bulk': how many values and letters a reading holds, each counted each time it is reached (what is shared counts as often as it is met; a slice's spare places count too). A statement '..UptoSaid' is the law's where the arguments, and the package variables that the reading takes, are together of bulk at most 1048576: NARROWER than '..Said'. Prove '..Said' where nothing that the law and all that it calls make is longer than what came in: it says more and counts as full. Else prove '..UptoSaid'. A law counts once. -/
mutual
def uptoBulk {H : Type} : DataW H → Nat
  | .lit (.string bytes) => bytes.length + 1
  | .lit _ => 1
  | .nil => 1
  | .ptr d => uptoBulk d + 1
  | .slice elems spare => uptoBulkAll elems + uptoBulkAll spare + 1
  | .agg parts => uptoBulkAll parts + 1
  | .iface _ d => uptoBulk d + 1
  | .map entries => uptoBulkEntries entries + 1
  | .held _ => 1
def uptoBulkAll {H : Type} : List (DataW H) → Nat
  | [] => 0
  | d :: r => uptoBulk d + uptoBulkAll r
def uptoBulkEntries {H : Type} : List (Lit × DataW H) → Nat
  | [] => 0
  | x :: r => uptoBulkEntry x + uptoBulkEntries r
def uptoBulkEntry {H : Type} : Lit × DataW H → Nat
  | (.string bytes, d) => bytes.length + uptoBulk d + 1
  | (_, d) => uptoBulk d + 1
 end
def uptoSmall : (H : Type) → List (DataW H) → Bool := fun _ ds => decide (uptoBulkAll ds ≤ 1048576)
def OpenSpec.upto (s : _root_.Go.ChangeSpec) : _root_.Go.OpenSpec := { _root_.Go.OpenSpec.ofChange s with cond := some uptoSmall }

/-- 'laws.FnExactSlotIn', WHERE WHAT IT READS IS OF BULK AT MOST 1048576: true; the input reads as it did. -/
def fnExactSlotInUptoRow : OpenClaim := { program := "ytnidgolbfmbocaa", sum := "ccdcd103496c139b68d6e71a0f5d04c46d5102344120deccc35fbedb63caefd3", func := "loop.example/g00408/laws.FnExactSlotIn", spec := "fnExactSlotIn", apart := false, narrowed := true }
def FnExactSlotInUptoSaid : Prop := fnExactSlotInUptoRow.holds Try.pinned (OpenSpec.upto fnExactSlotInSpec)

/-- 'laws.FnExactDropSlot', WHERE WHAT IT READS IS OF BULK AT MOST 1048576: true; the input reads as it did. -/
def fnExactDropSlotUptoRow : OpenClaim := { program := "ytnidgolbfmbocaa", sum := "ccdcd103496c139b68d6e71a0f5d04c46d5102344120deccc35fbedb63caefd3", func := "loop.example/g00408/laws.FnExactDropSlot", spec := "fnExactDropSlot", apart := false, narrowed := true }
def FnExactDropSlotUptoSaid : Prop := fnExactDropSlotUptoRow.holds Try.pinned (OpenSpec.upto fnExactDropSlotSpec)

/-- 'laws.FnExactCompactPage', WHERE WHAT IT READS IS OF BULK AT MOST 1048576: true; the input reads as it did. -/
def fnExactCompactPageUptoRow : OpenClaim := { program := "ytnidgolbfmbocaa", sum := "ccdcd103496c139b68d6e71a0f5d04c46d5102344120deccc35fbedb63caefd3", func := "loop.example/g00408/laws.FnExactCompactPage", spec := "fnExactCompactPage", apart := false, narrowed := true }
def FnExactCompactPageUptoSaid : Prop := fnExactCompactPageUptoRow.holds Try.pinned (OpenSpec.upto fnExactCompactPageSpec)

/-- 'laws.FnExactSetSlot', WHERE WHAT IT READS IS OF BULK AT MOST 1048576: true; the input reads as it did. -/
def fnExactSetSlotUptoRow : OpenClaim := { program := "ytnidgolbfmbocaa", sum := "ccdcd103496c139b68d6e71a0f5d04c46d5102344120deccc35fbedb63caefd3", func := "loop.example/g00408/laws.FnExactSetSlot", spec := "fnExactSetSlot", apart := false, narrowed := true }
def FnExactSetSlotUptoSaid : Prop := fnExactSetSlotUptoRow.holds Try.pinned (OpenSpec.upto fnExactSetSlotSpec)

/-- 'laws.FnExactPutSlot', WHERE WHAT IT READS IS OF BULK AT MOST 1048576: true; the input reads as it did. -/
def fnExactPutSlotUptoRow : OpenClaim := { program := "ytnidgolbfmbocaa", sum := "ccdcd103496c139b68d6e71a0f5d04c46d5102344120deccc35fbedb63caefd3", func := "loop.example/g00408/laws.FnExactPutSlot", spec := "fnExactPutSlot", apart := false, narrowed := true }
def FnExactPutSlotUptoSaid : Prop := fnExactPutSlotUptoRow.holds Try.pinned (OpenSpec.upto fnExactPutSlotSpec)

/-- 'laws.FnPuts', WHERE WHAT IT READS IS OF BULK AT MOST 1048576: true; the input reads as it did. -/
def fnPutsUptoRow : OpenClaim := { program := "ytnidgolbfmbocaa", sum := "ccdcd103496c139b68d6e71a0f5d04c46d5102344120deccc35fbedb63caefd3", func := "loop.example/g00408/laws.FnPuts", spec := "fnPuts", apart := false, narrowed := true }
def FnPutsUptoSaid : Prop := fnPutsUptoRow.holds Try.pinned (OpenSpec.upto fnPutsSpec)

/-- 'laws.FnCompacts', WHERE WHAT IT READS IS OF BULK AT MOST 1048576: true; the input reads as it did. -/
def fnCompactsUptoRow : OpenClaim := { program := "ytnidgolbfmbocaa", sum := "ccdcd103496c139b68d6e71a0f5d04c46d5102344120deccc35fbedb63caefd3", func := "loop.example/g00408/laws.FnCompacts", spec := "fnCompacts", apart := false, narrowed := true }
def FnCompactsUptoSaid : Prop := fnCompactsUptoRow.holds Try.pinned (OpenSpec.upto fnCompactsSpec)

/-- 'laws.FnSets', WHERE WHAT IT READS IS OF BULK AT MOST 1048576: true; the input reads as it did. -/
def fnSetsUptoRow : OpenClaim := { program := "ytnidgolbfmbocaa", sum := "ccdcd103496c139b68d6e71a0f5d04c46d5102344120deccc35fbedb63caefd3", func := "loop.example/g00408/laws.FnSets", spec := "fnSets", apart := false, narrowed := true }
def FnSetsUptoSaid : Prop := fnSetsUptoRow.holds Try.pinned (OpenSpec.upto fnSetsSpec)

/-- 'laws.FnCells', WHERE WHAT IT READS IS OF BULK AT MOST 1048576: true; the input reads as it did. -/
def fnCellsUptoRow : OpenClaim := { program := "ytnidgolbfmbocaa", sum := "ccdcd103496c139b68d6e71a0f5d04c46d5102344120deccc35fbedb63caefd3", func := "loop.example/g00408/laws.FnCells", spec := "fnCells", apart := false, narrowed := true }
def FnCellsUptoSaid : Prop := fnCellsUptoRow.holds Try.pinned (OpenSpec.upto fnCellsSpec)

/-- 'laws.FnExactDiffBytes', WHERE WHAT IT READS IS OF BULK AT MOST 1048576: true; the input reads as it did. -/
def fnExactDiffBytesUptoRow : OpenClaim := { program := "ytnidgolbfmbocaa", sum := "ccdcd103496c139b68d6e71a0f5d04c46d5102344120deccc35fbedb63caefd3", func := "loop.example/g00408/laws.FnExactDiffBytes", spec := "fnExactDiffBytes", apart := false, narrowed := true }
def FnExactDiffBytesUptoSaid : Prop := fnExactDiffBytesUptoRow.holds Try.pinned (OpenSpec.upto fnExactDiffBytesSpec)

/-- 'laws.FnExactApplyRuns', WHERE WHAT IT READS IS OF BULK AT MOST 1048576: true; the input reads as it did. -/
def fnExactApplyRunsUptoRow : OpenClaim := { program := "ytnidgolbfmbocaa", sum := "ccdcd103496c139b68d6e71a0f5d04c46d5102344120deccc35fbedb63caefd3", func := "loop.example/g00408/laws.FnExactApplyRuns", spec := "fnExactApplyRuns", apart := false, narrowed := true }
def FnExactApplyRunsUptoSaid : Prop := fnExactApplyRunsUptoRow.holds Try.pinned (OpenSpec.upto fnExactApplyRunsSpec)

/-- 'laws.FnExactInverseRuns', WHERE WHAT IT READS IS OF BULK AT MOST 1048576: true; the input reads as it did. -/
def fnExactInverseRunsUptoRow : OpenClaim := { program := "ytnidgolbfmbocaa", sum := "ccdcd103496c139b68d6e71a0f5d04c46d5102344120deccc35fbedb63caefd3", func := "loop.example/g00408/laws.FnExactInverseRuns", spec := "fnExactInverseRuns", apart := false, narrowed := true }
def FnExactInverseRunsUptoSaid : Prop := fnExactInverseRunsUptoRow.holds Try.pinned (OpenSpec.upto fnExactInverseRunsSpec)

end Rows
end Go.Proofs.Ytnidgolbfmbocaa
