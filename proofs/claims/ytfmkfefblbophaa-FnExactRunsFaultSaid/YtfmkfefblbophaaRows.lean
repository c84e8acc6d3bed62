/-
  No cell of these rows narrows 'for every input' (looked for: loops, veiled, ifaces, maps, wideKeys, modest, calm, conditions, laid).
  DERIVED. THE GIVEN ROWS OF THIS SEAT. 12 by the template 'for every input the law returns true; each argument reads behind the call as it read before'; 0 by the template 'total and deterministic' (their statements: YtfmkfefblbophaaTotals.lean).
  GIVEN WITH THE SEED: the statements are not yours to turn. If you find one false, say at which input.
  Laid BY PROGRAM, IN A SANDBOX (cutbox-rows.mjs): the forced cells as the released guide's own fill.sh prints them over the translation 54dc34efd1fbdf6b… (all of the seat's roots in one cut). By AI agents, Wed Nov 11 2026. No macro, syntax, notation, axiom, sorry.
-/
import Derived.Test.YtfmkfefblbophaaChecked
import GoSem.Claim
import GoSem.ClaimJoined
import GoSem.ClaimMapViews
import Derived.JoinedTies
import Derived.KernelRfl
namespace Go.Proofs.Ytfmkfefblbophaa
/- THE CELL 'sum', in the pinned program and in every row, IS THE sha256 OF THE DUMP (.gsa) THAT YtfmkfefblbophaaProg.lean LOADS. Nothing in Lean hashes anything: it is a label: what it is worth is what the hold of that sum in a sandbox is worth. -/
noncomputable def Try.pinned : Pinned := { name := "ytfmkfefblbophaa", sum := "54dc34efd1fbdf6b3be65d1c96ee5a39bbaf0afd61cdc94d6021ac9a88266e83", checked := Try.checked }
namespace Rows
def none {H : Type} : Left H := { results := [], args := [] }

/-- 'laws.FnExactConstants': WHATEVER THE INPUT: true; the input reads as it did. -/
def fnExactConstantsSpec : ChangeSpec := { name := "fnExactConstants", fn := fun _ => fun
  | [] => { results := [.lit (.bool true)], args := [] }
  | _ => none }
def fnExactConstantsRow : OpenClaim := { program := "ytfmkfefblbophaa", sum := "54dc34efd1fbdf6b3be65d1c96ee5a39bbaf0afd61cdc94d6021ac9a88266e83", func := "loop.example/g00408/laws.FnExactConstants", spec := "fnExactConstants", apart := false }
def FnExactConstantsSaid : Prop := fnExactConstantsRow.holds Try.pinned (OpenSpec.ofChange fnExactConstantsSpec)

/-- ITS FALSE NEIGHBOUR: 'it returns false'. Refute it at one input. -/
def fnExactConstantsWrong : ChangeSpec := { name := "fnExactConstants", fn := fun _ => fun
  | [] => { results := [.lit (.bool false)], args := [] }
  | _ => none }
def FnExactConstantsWrongFalsely : Prop := fnExactConstantsRow.holds Try.pinned (OpenSpec.ofChange fnExactConstantsWrong)

/-- 'laws.FnExactIsBefore': WHATEVER THE INPUT: true; the input reads as it did. -/
def fnExactIsBeforeSpec : ChangeSpec := { name := "fnExactIsBefore", fn := fun _ => fun
  | [d1, d2] => { results := [.lit (.bool true)], args := [d1, d2] }
  | _ => none }
def fnExactIsBeforeRow : OpenClaim := { program := "ytfmkfefblbophaa", sum := "54dc34efd1fbdf6b3be65d1c96ee5a39bbaf0afd61cdc94d6021ac9a88266e83", func := "loop.example/g00408/laws.FnExactIsBefore", spec := "fnExactIsBefore", apart := false }
def FnExactIsBeforeSaid : Prop := fnExactIsBeforeRow.holds Try.pinned (OpenSpec.ofChange fnExactIsBeforeSpec)

/-- ITS FALSE NEIGHBOUR: 'it returns false'. Refute it at one input. -/
def fnExactIsBeforeWrong : ChangeSpec := { name := "fnExactIsBefore", fn := fun _ => fun
  | [d1, d2] => { results := [.lit (.bool false)], args := [d1, d2] }
  | _ => none }
def FnExactIsBeforeWrongFalsely : Prop := fnExactIsBeforeRow.holds Try.pinned (OpenSpec.ofChange fnExactIsBeforeWrong)

/-- 'laws.FnExactRowFault': WHATEVER THE INPUT: true; the input reads as it did. -/
def fnExactRowFaultSpec : ChangeSpec := { name := "fnExactRowFault", fn := fun _ => fun
  | [d] => { results := [.lit (.bool true)], args := [d] }
  | _ => none }
def fnExactRowFaultRow : OpenClaim := { program := "ytfmkfefblbophaa", sum := "54dc34efd1fbdf6b3be65d1c96ee5a39bbaf0afd61cdc94d6021ac9a88266e83", func := "loop.example/g00408/laws.FnExactRowFault", spec := "fnExactRowFault", apart := false }
def FnExactRowFaultSaid : Prop := fnExactRowFaultRow.holds Try.pinned (OpenSpec.ofChange fnExactRowFaultSpec)

/-- ITS FALSE NEIGHBOUR: 'it returns false'. Refute it at one input. -/
def fnExactRowFaultWrong : ChangeSpec := { name := "fnExactRowFault", fn := fun _ => fun
  | [d] => { results := [.lit (.bool false)], args := [d] }
  | _ => none }
def FnExactRowFaultWrongFalsely : Prop := fnExactRowFaultRow.holds Try.pinned (OpenSpec.ofChange fnExactRowFaultWrong)

/-- 'laws.FnExactPackStub': WHATEVER THE INPUT: true; the input reads as it did. -/
def fnExactPackStubSpec : ChangeSpec := { name := "fnExactPackStub", fn := fun _ => fun
  | [d1, d2] => { results := [.lit (.bool true)], args := [d1, d2] }
  | _ => none }
def fnExactPackStubRow : OpenClaim := { program := "ytfmkfefblbophaa", sum := "54dc34efd1fbdf6b3be65d1c96ee5a39bbaf0afd61cdc94d6021ac9a88266e83", func := "loop.example/g00408/laws.FnExactPackStub", spec := "fnExactPackStub", apart := false }
def FnExactPackStubSaid : Prop := fnExactPackStubRow.holds Try.pinned (OpenSpec.ofChange fnExactPackStubSpec)

/-- ITS FALSE NEIGHBOUR: 'it returns false'. Refute it at one input. -/
def fnExactPackStubWrong : ChangeSpec := { name := "fnExactPackStub", fn := fun _ => fun
  | [d1, d2] => { results := [.lit (.bool false)], args := [d1, d2] }
  | _ => none }
def FnExactPackStubWrongFalsely : Prop := fnExactPackStubRow.holds Try.pinned (OpenSpec.ofChange fnExactPackStubWrong)

/-- 'laws.FnExactNewPage': WHATEVER THE INPUT: true; the input reads as it did. -/
def fnExactNewPageSpec : ChangeSpec := { name := "fnExactNewPage", fn := fun _ => fun
  | [d] => { results := [.lit (.bool true)], args := [d] }
  | _ => none }
def fnExactNewPageRow : OpenClaim := { program := "ytfmkfefblbophaa", sum := "54dc34efd1fbdf6b3be65d1c96ee5a39bbaf0afd61cdc94d6021ac9a88266e83", func := "loop.example/g00408/laws.FnExactNewPage", spec := "fnExactNewPage", apart := false }
def FnExactNewPageSaid : Prop := fnExactNewPageRow.holds Try.pinned (OpenSpec.ofChange fnExactNewPageSpec)

/-- ITS FALSE NEIGHBOUR: 'it returns false'. Refute it at one input. -/
def fnExactNewPageWrong : ChangeSpec := { name := "fnExactNewPage", fn := fun _ => fun
  | [d] => { results := [.lit (.bool false)], args := [d] }
  | _ => none }
def FnExactNewPageWrongFalsely : Prop := fnExactNewPageRow.holds Try.pinned (OpenSpec.ofChange fnExactNewPageWrong)

/-- 'laws.FnExactPageFault': WHATEVER THE INPUT: true; the input reads as it did. -/
def fnExactPageFaultSpec : ChangeSpec := { name := "fnExactPageFault", fn := fun _ => fun
  | [d] => { results := [.lit (.bool true)], args := [d] }
  | _ => none }
def fnExactPageFaultRow : OpenClaim := { program := "ytfmkfefblbophaa", sum := "54dc34efd1fbdf6b3be65d1c96ee5a39bbaf0afd61cdc94d6021ac9a88266e83", func := "loop.example/g00408/laws.FnExactPageFault", spec := "fnExactPageFault", apart := false }
def FnExactPageFaultSaid : Prop := fnExactPageFaultRow.holds Try.pinned (OpenSpec.ofChange fnExactPageFaultSpec)

/-- ITS FALSE NEIGHBOUR: 'it returns false'. Refute it at one input. -/
def fnExactPageFaultWrong : ChangeSpec := { name := "fnExactPageFault", fn := fun _ => fun
  | [d] => { results := [.lit (.bool false)], args := [d] }
  | _ => none }
def FnExactPageFaultWrongFalsely : Prop := fnExactPageFaultRow.holds Try.pinned (OpenSpec.ofChange fnExactPageFaultWrong)

/-- 'laws.FnExactOpFault': WHATEVER THE INPUT: true; the input reads as it did. -/
def fnExactOpFaultSpec : ChangeSpec := { name := "fnExactOpFault", fn := fun _ => fun
  | [d] => { results := [.lit (.bool true)], args := [d] }
  | _ => none }
def fnExactOpFaultRow : OpenClaim := { program := "ytfmkfefblbophaa", sum := "54dc34efd1fbdf6b3be65d1c96ee5a39bbaf0afd61cdc94d6021ac9a88266e83", func := "loop.example/g00408/laws.FnExactOpFault", spec := "fnExactOpFault", apart := false }
def FnExactOpFaultSaid : Prop := fnExactOpFaultRow.holds Try.pinned (OpenSpec.ofChange fnExactOpFaultSpec)

/-- ITS FALSE NEIGHBOUR: 'it returns false'. Refute it at one input. -/
def fnExactOpFaultWrong : ChangeSpec := { name := "fnExactOpFault", fn := fun _ => fun
  | [d] => { results := [.lit (.bool false)], args := [d] }
  | _ => none }
def FnExactOpFaultWrongFalsely : Prop := fnExactOpFaultRow.holds Try.pinned (OpenSpec.ofChange fnExactOpFaultWrong)

/-- 'laws.FnExactRunsFault': WHATEVER THE INPUT: true; the input reads as it did. -/
def fnExactRunsFaultSpec : ChangeSpec := { name := "fnExactRunsFault", fn := fun _ => fun
  | [d] => { results := [.lit (.bool true)], args := [d] }
  | _ => none }
def fnExactRunsFaultRow : OpenClaim := { program := "ytfmkfefblbophaa", sum := "54dc34efd1fbdf6b3be65d1c96ee5a39bbaf0afd61cdc94d6021ac9a88266e83", func := "loop.example/g00408/laws.FnExactRunsFault", spec := "fnExactRunsFault", apart := false }
def FnExactRunsFaultSaid : Prop := fnExactRunsFaultRow.holds Try.pinned (OpenSpec.ofChange fnExactRunsFaultSpec)

/-- ITS FALSE NEIGHBOUR: 'it returns false'. Refute it at one input. -/
def fnExactRunsFaultWrong : ChangeSpec := { name := "fnExactRunsFault", fn := fun _ => fun
  | [d] => { results := [.lit (.bool false)], args := [d] }
  | _ => none }
def FnExactRunsFaultWrongFalsely : Prop := fnExactRunsFaultRow.holds Try.pinned (OpenSpec.ofChange fnExactRunsFaultWrong)

/-- 'laws.FnExactUnpackCell': WHATEVER THE INPUT: true; the input reads as it did. -/
def fnExactUnpackCellSpec : ChangeSpec := { name := "fnExactUnpackCell", fn := fun _ => fun
  | [d] => { results := [.lit (.bool true)], args := [d] }
  | _ => none }
def fnExactUnpackCellRow : OpenClaim := { program := "ytfmkfefblbophaa", sum := "54dc34efd1fbdf6b3be65d1c96ee5a39bbaf0afd61cdc94d6021ac9a88266e83", func := "loop.example/g00408/laws.FnExactUnpackCell", spec := "fnExactUnpackCell", apart := false }
def FnExactUnpackCellSaid : Prop := fnExactUnpackCellRow.holds Try.pinned (OpenSpec.ofChange fnExactUnpackCellSpec)

/-- ITS FALSE NEIGHBOUR: 'it returns false'. Refute it at one input. -/
def fnExactUnpackCellWrong : ChangeSpec := { name := "fnExactUnpackCell", fn := fun _ => fun
  | [d] => { results := [.lit (.bool false)], args := [d] }
  | _ => none }
def FnExactUnpackCellWrongFalsely : Prop := fnExactUnpackCellRow.holds Try.pinned (OpenSpec.ofChange fnExactUnpackCellWrong)

/-- 'laws.FnExactPackRow': WHATEVER THE INPUT: true; the input reads as it did. -/
def fnExactPackRowSpec : ChangeSpec := { name := "fnExactPackRow", fn := fun _ => fun
  | [d1, d2] => { results := [.lit (.bool true)], args := [d1, d2] }
  | _ => none }
def fnExactPackRowRow : OpenClaim := { program := "ytfmkfefblbophaa", sum := "54dc34efd1fbdf6b3be65d1c96ee5a39bbaf0afd61cdc94d6021ac9a88266e83", func := "loop.example/g00408/laws.FnExactPackRow", spec := "fnExactPackRow", apart := false }
def FnExactPackRowSaid : Prop := fnExactPackRowRow.holds Try.pinned (OpenSpec.ofChange fnExactPackRowSpec)

/-- ITS FALSE NEIGHBOUR: 'it returns false'. Refute it at one input. -/
def fnExactPackRowWrong : ChangeSpec := { name := "fnExactPackRow", fn := fun _ => fun
  | [d1, d2] => { results := [.lit (.bool false)], args := [d1, d2] }
  | _ => none }
def FnExactPackRowWrongFalsely : Prop := fnExactPackRowRow.holds Try.pinned (OpenSpec.ofChange fnExactPackRowWrong)

/-- 'laws.FnExactRowsFault': WHATEVER THE INPUT: true; the input reads as it did. -/
def fnExactRowsFaultSpec : ChangeSpec := { name := "fnExactRowsFault", fn := fun _ => fun
  | [d] => { results := [.lit (.bool true)], args := [d] }
  | _ => none }
def fnExactRowsFaultRow : OpenClaim := { program := "ytfmkfefblbophaa", sum := "54dc34efd1fbdf6b3be65d1c96ee5a39bbaf0afd61cdc94d6021ac9a88266e83", func := "loop.example/g00408/laws.FnExactRowsFault", spec := "fnExactRowsFault", apart := false }
def FnExactRowsFaultSaid : Prop := fnExactRowsFaultRow.holds Try.pinned (OpenSpec.ofChange fnExactRowsFaultSpec)

/-- ITS FALSE NEIGHBOUR: 'it returns false'. Refute it at one input. -/
def fnExactRowsFaultWrong : ChangeSpec := { name := "fnExactRowsFault", fn := fun _ => fun
  | [d] => { results := [.lit (.bool false)], args := [d] }
  | _ => none }
def FnExactRowsFaultWrongFalsely : Prop := fnExactRowsFaultRow.holds Try.pinned (OpenSpec.ofChange fnExactRowsFaultWrong)

/-- 'laws.FnExactFreeIn': WHATEVER THE INPUT: true; the input reads as it did. -/
def fnExactFreeInSpec : ChangeSpec := { name := "fnExactFreeIn", fn := fun _ => fun
  | [d] => { results := [.lit (.bool true)], args := [d] }
  | _ => none }
def fnExactFreeInRow : OpenClaim := { program := "ytfmkfefblbophaa", sum := "54dc34efd1fbdf6b3be65d1c96ee5a39bbaf0afd61cdc94d6021ac9a88266e83", func := "loop.example/g00408/laws.FnExactFreeIn", spec := "fnExactFreeIn", apart := false }
def FnExactFreeInSaid : Prop := fnExactFreeInRow.holds Try.pinned (OpenSpec.ofChange fnExactFreeInSpec)

/-- ITS FALSE NEIGHBOUR: 'it returns false'. Refute it at one input. -/
def fnExactFreeInWrong : ChangeSpec := { name := "fnExactFreeIn", fn := fun _ => fun
  | [d] => { results := [.lit (.bool false)], args := [d] }
  | _ => none }
def FnExactFreeInWrongFalsely : Prop := fnExactFreeInRow.holds Try.pinned (OpenSpec.ofChange fnExactFreeInWrong)

/- THE SECOND FORM. 'bulk': how many values and letters a reading holds, each counted each time it is reached (what is shared counts as often as it is met; a slice's spare places count too). A statement '..UptoSaid' is the law's where the arguments, and the package variables that the reading takes, are together of bulk at most 1048576: NARROWER than '..Said'. Prove '..Said' where nothing that the law and all that it calls make is longer than what came in: it says more and counts as full. Else prove '..UptoSaid'. A law counts once. -/
mutual
def uptoBulk {H : Type} : DataW H → Nat
  | .lit (.string bytes) => bytes.length + 1
  | .lit _ => 1
  | .nil => 1
  | .ptr d => uptoBulk d + 1
  | .slice elems spare => uptoBulkAll elems + uptoBulkAll spare + 1
  | .agg parts => uptoBulkAll parts + 1
  | .iface _ d => uptoBulk d + 1
  | .map entries => uptoBulkEntries entries + 1
  | .held _ => 1
def uptoBulkAll {H : Type} : List (DataW H) → Nat
  | [] => 0
  | d :: r => uptoBulk d + uptoBulkAll r
def uptoBulkEntries {H : Type} : List (Lit × DataW H) → Nat
  | [] => 0
  | x :: r => uptoBulkEntry x + uptoBulkEntries r
def uptoBulkEntry {H : Type} : Lit × DataW H → Nat
  | (.string bytes, d) => bytes.length + uptoBulk d + 1
  | (_, d) => uptoBulk d + 1
 end
def uptoSmall : (H : Type) → List (DataW H) → Bool := fun _ ds => decide (uptoBulkAll ds ≤ 1048576)
def OpenSpec.upto (s : _root_.Go.ChangeSpec) : _root_.Go.OpenSpec := { _root_.Go.OpenSpec.ofChange s with cond := some uptoSmall }

/-- 'laws.FnExactConstants', WHERE WHAT IT READS IS OF BULK AT MOST 1048576: true; the input reads as it did. -/
def fnExactConstantsUptoRow : OpenClaim := { program := "ytfmkfefblbophaa", sum := "54dc34efd1fbdf6b3be65d1c96ee5a39bbaf0afd61cdc94d6021ac9a88266e83", func := "loop.example/g00408/laws.FnExactConstants", spec := "fnExactConstants", apart := false, narrowed := true }
def FnExactConstantsUptoSaid : Prop := fnExactConstantsUptoRow.holds Try.pinned (OpenSpec.upto fnExactConstantsSpec)

/-- 'laws.FnExactIsBefore', WHERE WHAT IT READS IS OF BULK AT MOST 1048576: true; the input reads as it did. -/
def fnExactIsBeforeUptoRow : OpenClaim := { program := "ytfmkfefblbophaa", sum := "54dc34efd1fbdf6b3be65d1c96ee5a39bbaf0afd61cdc94d6021ac9a88266e83", func := "loop.example/g00408/laws.FnExactIsBefore", spec := "fnExactIsBefore", apart := false, narrowed := true }
def FnExactIsBeforeUptoSaid : Prop := fnExactIsBeforeUptoRow.holds Try.pinned (OpenSpec.upto fnExactIsBeforeSpec)

/-- 'laws.FnExactRowFault', WHERE WHAT IT READS IS OF BULK AT MOST 1048576: true; the input reads as it did. -/
def fnExactRowFaultUptoRow : OpenClaim := { program := "ytfmkfefblbophaa", sum := "54dc34efd1fbdf6b3be65d1c96ee5a39bbaf0afd61cdc94d6021ac9a88266e83", func := "loop.example/g00408/laws.FnExactRowFault", spec := "fnExactRowFault", apart := false, narrowed := true }
def FnExactRowFaultUptoSaid : Prop := fnExactRowFaultUptoRow.holds Try.pinned (OpenSpec.upto fnExactRowFaultSpec)

/-- 'laws.FnExactPackStub', WHERE WHAT IT READS IS OF BULK AT MOST 1048576: true; the input reads as it did. -/
def fnExactPackStubUptoRow : OpenClaim := { program := "ytfmkfefblbophaa", sum := "54dc34efd1fbdf6b3be65d1c96ee5a39bbaf0afd61cdc94d6021ac9a88266e83", func := "loop.example/g00408/laws.FnExactPackStub", spec := "fnExactPackStub", apart := false, narrowed := true }
def FnExactPackStubUptoSaid : Prop := fnExactPackStubUptoRow.holds Try.pinned (OpenSpec.upto fnExactPackStubSpec)

/-- 'laws.FnExactNewPage', WHERE WHAT IT READS IS OF BULK AT MOST 1048576: true; the input reads as it did. -/
def fnExactNewPageUptoRow : OpenClaim := { program := "ytfmkfefblbophaa", sum := "54dc34efd1fbdf6b3be65d1c96ee5a39bbaf0afd61cdc94d6021ac9a88266e83", func := "loop.example/g00408/laws.FnExactNewPage", spec := "fnExactNewPage", apart := false, narrowed := true }
def FnExactNewPageUptoSaid : Prop := fnExactNewPageUptoRow.holds Try.pinned (OpenSpec.upto fnExactNewPageSpec)

/-- 'laws.FnExactPageFault', WHERE WHAT IT READS IS OF BULK AT MOST 1048576: true; the input reads as it did. -/
def fnExactPageFaultUptoRow : OpenClaim := { program := "ytfmkfefblbophaa", sum := "54dc34efd1fbdf6b3be65d1c96ee5a39bbaf0afd61cdc94d6021ac9a88266e83", func := "loop.example/g00408/laws.FnExactPageFault", spec := "fnExactPageFault", apart := false, narrowed := true }
def FnExactPageFaultUptoSaid : Prop := fnExactPageFaultUptoRow.holds Try.pinned (OpenSpec.upto fnExactPageFaultSpec)

/-- 'laws.FnExactOpFault', WHERE WHAT IT READS IS OF BULK AT MOST 1048576: true; the input reads as it did. -/
def fnExactOpFaultUptoRow : OpenClaim := { program := "ytfmkfefblbophaa", sum := "54dc34efd1fbdf6b3be65d1c96ee5a39bbaf0afd61cdc94d6021ac9a88266e83", func := "loop.example/g00408/laws.FnExactOpFault", spec := "fnExactOpFault", apart := false, narrowed := true }
def FnExactOpFaultUptoSaid : Prop := fnExactOpFaultUptoRow.holds Try.pinned (OpenSpec.upto fnExactOpFaultSpec)

/-- 'laws.FnExactRunsFault', WHERE WHAT IT READS IS OF BULK AT MOST 1048576: true; the input reads as it did. -/
def fnExactRunsFaultUptoRow : OpenClaim := { program := "ytfmkfefblbophaa", sum := "54dc34efd1fbdf6b3be65d1c96ee5a39bbaf0afd61cdc94d6021ac9a88266e83", func := "loop.example/g00408/laws.FnExactRunsFault", spec := "fnExactRunsFault", apart := false, narrowed := true }
def FnExactRunsFaultUptoSaid : Prop := fnExactRunsFaultUptoRow.holds Try.pinned (OpenSpec.upto fnExactRunsFaultSpec)

/-- 'laws.FnExactUnpackCell', WHERE WHAT IT READS IS OF BULK AT MOST 1048576: true; the input reads as it did. -/
def fnExactUnpackCellUptoRow : OpenClaim := { program := "ytfmkfefblbophaa", sum := "54dc34efd1fbdf6b3be65d1c96ee5a39bbaf0afd61cdc94d6021ac9a88266e83", func := "loop.example/g00408/laws.FnExactUnpackCell", spec := "fnExactUnpackCell", apart := false, narrowed := true }
def FnExactUnpackCellUptoSaid : Prop := fnExactUnpackCellUptoRow.holds Try.pinned (OpenSpec.upto fnExactUnpackCellSpec)

/-- 'laws.FnExactPackRow', WHERE WHAT IT READS IS OF BULK AT MOST 1048576: true; the input reads as it did. -/
def fnExactPackRowUptoRow : OpenClaim := { program := "ytfmkfefblbophaa", sum := "54dc34efd1fbdf6b3be65d1c96ee5a39bbaf0afd61cdc94d6021ac9a88266e83", func := "loop.example/g00408/laws.FnExactPackRow", spec := "fnExactPackRow", apart := false, narrowed := true }
def FnExactPackRowUptoSaid : Prop := fnExactPackRowUptoRow.holds Try.pinned (OpenSpec.upto fnExactPackRowSpec)

/-- 'laws.FnExactRowsFault', WHERE WHAT IT READS IS OF BULK AT MOST 1048576: true; the input reads as it did. -/
def fnExactRowsFaultUptoRow : OpenClaim := { program := "ytfmkfefblbophaa", sum := "54dc34efd1fbdf6b3be65d1c96ee5a39bbaf0afd61cdc94d6021ac9a88266e83", func := "loop.example/g00408/laws.FnExactRowsFault", spec := "fnExactRowsFault", apart := false, narrowed := true }
def FnExactRowsFaultUptoSaid : Prop := fnExactRowsFaultUptoRow.holds Try.pinned (OpenSpec.upto fnExactRowsFaultSpec)

/-- 'laws.FnExactFreeIn', WHERE WHAT IT READS IS OF BULK AT MOST 1048576: true; the input reads as it did. -/
def fnExactFreeInUptoRow : OpenClaim := { program := "ytfmkfefblbophaa", sum := "54dc34efd1fbdf6b3be65d1c96ee5a39bbaf0afd61cdc94d6021ac9a88266e83", func := "loop.example/g00408/laws.FnExactFreeIn", spec := "fnExactFreeIn", apart := false, narrowed := true }
def FnExactFreeInUptoSaid : Prop := fnExactFreeInUptoRow.holds Try.pinned (OpenSpec.upto fnExactFreeInSpec)

end Rows
end Go.Proofs.Ytfmkfefblbophaa
