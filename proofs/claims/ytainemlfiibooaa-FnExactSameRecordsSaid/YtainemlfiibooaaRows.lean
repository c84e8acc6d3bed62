/-
  No cell of these rows narrows 'for every input' (looked for: loops, veiled, ifaces, maps, wideKeys, modest, calm, conditions, laid).
  DERIVED. THE GIVEN ROWS OF THIS SEAT. 10 by the template 'for every input the law returns true; each argument reads behind the call as it read before'; 0 by the template 'total and deterministic' (their statements: YtainemlfiibooaaTotals.lean).
  GIVEN WITH THE SEED: the statements are not yours to turn. If you find one false, say at which input.
  Laid BY PROGRAM, IN A SANDBOX (cutbox-rows.mjs): the forced cells as the released guide's own fill.sh prints them over the translation c1620c78deb3826f… (all of the seat's roots in one cut). By AI agents, Wed Nov 11 2026. No macro, syntax, notation, axiom, sorry.
-/
import Derived.Test.YtainemlfiibooaaChecked
import GoSem.Claim
import GoSem.ClaimJoined
import GoSem.ClaimMapViews
import Derived.JoinedTies
import Derived.KernelRfl
namespace Go.Proofs.Ytainemlfiibooaa
/- THE CELL 'sum', in the pinned program and in every row, IS THE sha256 OF THE DUMP (.gsa) THAT YtainemlfiibooaaProg.lean LOADS. Nothing in Lean hashes anything: it is a label: what it is worth is what the hold of that sum in a sandbox is worth. -/
noncomputable def Try.pinned : Pinned := { name := "ytainemlfiibooaa", sum := "c1620c78deb3826facc8e72e9b9b2b9a67f95a869c0cb4f1427fc6484692ecc9", checked := Try.checked }
namespace Rows
def none {H : Type} : Left H := { results := [], args := [] }

/-- 'laws.FnExactRecordFault': WHATEVER THE INPUT: true; the input reads as it did. -/
def fnExactRecordFaultSpec : ChangeSpec := { name := "fnExactRecordFault", fn := fun _ => fun
  | [d] => { results := [.lit (.bool true)], args := [d] }
  | _ => none }
def fnExactRecordFaultRow : OpenClaim := { program := "ytainemlfiibooaa", sum := "c1620c78deb3826facc8e72e9b9b2b9a67f95a869c0cb4f1427fc6484692ecc9", func := "loop.example/g00408/laws.FnExactRecordFault", spec := "fnExactRecordFault", apart := false }
def FnExactRecordFaultSaid : Prop := fnExactRecordFaultRow.holds Try.pinned (OpenSpec.ofChange fnExactRecordFaultSpec)

/-- ITS FALSE NEIGHBOUR: 'it returns false'. Refute it at one input. -/
def fnExactRecordFaultWrong : ChangeSpec := { name := "fnExactRecordFault", fn := fun _ => fun
  | [d] => { results := [.lit (.bool false)], args := [d] }
  | _ => none }
def FnExactRecordFaultWrongFalsely : Prop := fnExactRecordFaultRow.holds Try.pinned (OpenSpec.ofChange fnExactRecordFaultWrong)

/-- 'laws.FnExactPackRecord': WHATEVER THE INPUT: true; the input reads as it did. -/
def fnExactPackRecordSpec : ChangeSpec := { name := "fnExactPackRecord", fn := fun _ => fun
  | [d] => { results := [.lit (.bool true)], args := [d] }
  | _ => none }
def fnExactPackRecordRow : OpenClaim := { program := "ytainemlfiibooaa", sum := "c1620c78deb3826facc8e72e9b9b2b9a67f95a869c0cb4f1427fc6484692ecc9", func := "loop.example/g00408/laws.FnExactPackRecord", spec := "fnExactPackRecord", apart := false }
def FnExactPackRecordSaid : Prop := fnExactPackRecordRow.holds Try.pinned (OpenSpec.ofChange fnExactPackRecordSpec)

/-- ITS FALSE NEIGHBOUR: 'it returns false'. Refute it at one input. -/
def fnExactPackRecordWrong : ChangeSpec := { name := "fnExactPackRecord", fn := fun _ => fun
  | [d] => { results := [.lit (.bool false)], args := [d] }
  | _ => none }
def FnExactPackRecordWrongFalsely : Prop := fnExactPackRecordRow.holds Try.pinned (OpenSpec.ofChange fnExactPackRecordWrong)

/-- 'laws.FnExactReadRecord': WHATEVER THE INPUT: true; the input reads as it did. -/
def fnExactReadRecordSpec : ChangeSpec := { name := "fnExactReadRecord", fn := fun _ => fun
  | [d] => { results := [.lit (.bool true)], args := [d] }
  | _ => none }
def fnExactReadRecordRow : OpenClaim := { program := "ytainemlfiibooaa", sum := "c1620c78deb3826facc8e72e9b9b2b9a67f95a869c0cb4f1427fc6484692ecc9", func := "loop.example/g00408/laws.FnExactReadRecord", spec := "fnExactReadRecord", apart := false }
def FnExactReadRecordSaid : Prop := fnExactReadRecordRow.holds Try.pinned (OpenSpec.ofChange fnExactReadRecordSpec)

/-- ITS FALSE NEIGHBOUR: 'it returns false'. Refute it at one input. -/
def fnExactReadRecordWrong : ChangeSpec := { name := "fnExactReadRecord", fn := fun _ => fun
  | [d] => { results := [.lit (.bool false)], args := [d] }
  | _ => none }
def FnExactReadRecordWrongFalsely : Prop := fnExactReadRecordRow.holds Try.pinned (OpenSpec.ofChange fnExactReadRecordWrong)

/-- 'laws.FnExactSameRecords': WHATEVER THE INPUT: true; the input reads as it did. -/
def fnExactSameRecordsSpec : ChangeSpec := { name := "fnExactSameRecords", fn := fun _ => fun
  | [d1, d2] => { results := [.lit (.bool true)], args := [d1, d2] }
  | _ => none }
def fnExactSameRecordsRow : OpenClaim := { program := "ytainemlfiibooaa", sum := "c1620c78deb3826facc8e72e9b9b2b9a67f95a869c0cb4f1427fc6484692ecc9", func := "loop.example/g00408/laws.FnExactSameRecords", spec := "fnExactSameRecords", unfollowed := true, recurses := true, apart := false }
def FnExactSameRecordsSaid : Prop := fnExactSameRecordsRow.holds Try.pinned (OpenSpec.ofChange fnExactSameRecordsSpec)

/-- ITS FALSE NEIGHBOUR: 'it returns false'. Refute it at one input. -/
def fnExactSameRecordsWrong : ChangeSpec := { name := "fnExactSameRecords", fn := fun _ => fun
  | [d1, d2] => { results := [.lit (.bool false)], args := [d1, d2] }
  | _ => none }
def FnExactSameRecordsWrongFalsely : Prop := fnExactSameRecordsRow.holds Try.pinned (OpenSpec.ofChange fnExactSameRecordsWrong)

/-- 'laws.FnExactLogFault': WHATEVER THE INPUT: true; the input reads as it did. -/
def fnExactLogFaultSpec : ChangeSpec := { name := "fnExactLogFault", fn := fun _ => fun
  | [d] => { results := [.lit (.bool true)], args := [d] }
  | _ => none }
def fnExactLogFaultRow : OpenClaim := { program := "ytainemlfiibooaa", sum := "c1620c78deb3826facc8e72e9b9b2b9a67f95a869c0cb4f1427fc6484692ecc9", func := "loop.example/g00408/laws.FnExactLogFault", spec := "fnExactLogFault", apart := false }
def FnExactLogFaultSaid : Prop := fnExactLogFaultRow.holds Try.pinned (OpenSpec.ofChange fnExactLogFaultSpec)

/-- ITS FALSE NEIGHBOUR: 'it returns false'. Refute it at one input. -/
def fnExactLogFaultWrong : ChangeSpec := { name := "fnExactLogFault", fn := fun _ => fun
  | [d] => { results := [.lit (.bool false)], args := [d] }
  | _ => none }
def FnExactLogFaultWrongFalsely : Prop := fnExactLogFaultRow.holds Try.pinned (OpenSpec.ofChange fnExactLogFaultWrong)

/-- 'laws.FnExactSyncLog': WHATEVER THE INPUT: true; the input reads as it did. -/
def fnExactSyncLogSpec : ChangeSpec := { name := "fnExactSyncLog", fn := fun _ => fun
  | [d] => { results := [.lit (.bool true)], args := [d] }
  | _ => none }
def fnExactSyncLogRow : OpenClaim := { program := "ytainemlfiibooaa", sum := "c1620c78deb3826facc8e72e9b9b2b9a67f95a869c0cb4f1427fc6484692ecc9", func := "loop.example/g00408/laws.FnExactSyncLog", spec := "fnExactSyncLog", apart := false }
def FnExactSyncLogSaid : Prop := fnExactSyncLogRow.holds Try.pinned (OpenSpec.ofChange fnExactSyncLogSpec)

/-- ITS FALSE NEIGHBOUR: 'it returns false'. Refute it at one input. -/
def fnExactSyncLogWrong : ChangeSpec := { name := "fnExactSyncLog", fn := fun _ => fun
  | [d] => { results := [.lit (.bool false)], args := [d] }
  | _ => none }
def FnExactSyncLogWrongFalsely : Prop := fnExactSyncLogRow.holds Try.pinned (OpenSpec.ofChange fnExactSyncLogWrong)

/-- 'laws.FnExactCrashLog': WHATEVER THE INPUT: true; the input reads as it did. -/
def fnExactCrashLogSpec : ChangeSpec := { name := "fnExactCrashLog", fn := fun _ => fun
  | [d1, d2] => { results := [.lit (.bool true)], args := [d1, d2] }
  | _ => none }
def fnExactCrashLogRow : OpenClaim := { program := "ytainemlfiibooaa", sum := "c1620c78deb3826facc8e72e9b9b2b9a67f95a869c0cb4f1427fc6484692ecc9", func := "loop.example/g00408/laws.FnExactCrashLog", spec := "fnExactCrashLog", apart := false }
def FnExactCrashLogSaid : Prop := fnExactCrashLogRow.holds Try.pinned (OpenSpec.ofChange fnExactCrashLogSpec)

/-- ITS FALSE NEIGHBOUR: 'it returns false'. Refute it at one input. -/
def fnExactCrashLogWrong : ChangeSpec := { name := "fnExactCrashLog", fn := fun _ => fun
  | [d1, d2] => { results := [.lit (.bool false)], args := [d1, d2] }
  | _ => none }
def FnExactCrashLogWrongFalsely : Prop := fnExactCrashLogRow.holds Try.pinned (OpenSpec.ofChange fnExactCrashLogWrong)

/-- 'laws.FnExactReadLog': WHATEVER THE INPUT: true; the input reads as it did. -/
def fnExactReadLogSpec : ChangeSpec := { name := "fnExactReadLog", fn := fun _ => fun
  | [d] => { results := [.lit (.bool true)], args := [d] }
  | _ => none }
def fnExactReadLogRow : OpenClaim := { program := "ytainemlfiibooaa", sum := "c1620c78deb3826facc8e72e9b9b2b9a67f95a869c0cb4f1427fc6484692ecc9", func := "loop.example/g00408/laws.FnExactReadLog", spec := "fnExactReadLog", apart := false }
def FnExactReadLogSaid : Prop := fnExactReadLogRow.holds Try.pinned (OpenSpec.ofChange fnExactReadLogSpec)

/-- ITS FALSE NEIGHBOUR: 'it returns false'. Refute it at one input. -/
def fnExactReadLogWrong : ChangeSpec := { name := "fnExactReadLog", fn := fun _ => fun
  | [d] => { results := [.lit (.bool false)], args := [d] }
  | _ => none }
def FnExactReadLogWrongFalsely : Prop := fnExactReadLogRow.holds Try.pinned (OpenSpec.ofChange fnExactReadLogWrong)

/-- 'laws.FnExactPackAll': WHATEVER THE INPUT: true; the input reads as it did. -/
def fnExactPackAllSpec : ChangeSpec := { name := "fnExactPackAll", fn := fun _ => fun
  | [d] => { results := [.lit (.bool true)], args := [d] }
  | _ => none }
def fnExactPackAllRow : OpenClaim := { program := "ytainemlfiibooaa", sum := "c1620c78deb3826facc8e72e9b9b2b9a67f95a869c0cb4f1427fc6484692ecc9", func := "loop.example/g00408/laws.FnExactPackAll", spec := "fnExactPackAll", apart := false }
def FnExactPackAllSaid : Prop := fnExactPackAllRow.holds Try.pinned (OpenSpec.ofChange fnExactPackAllSpec)

/-- ITS FALSE NEIGHBOUR: 'it returns false'. Refute it at one input. -/
def fnExactPackAllWrong : ChangeSpec := { name := "fnExactPackAll", fn := fun _ => fun
  | [d] => { results := [.lit (.bool false)], args := [d] }
  | _ => none }
def FnExactPackAllWrongFalsely : Prop := fnExactPackAllRow.holds Try.pinned (OpenSpec.ofChange fnExactPackAllWrong)

/-- 'laws.FnTorn': WHATEVER THE INPUT: true; the input reads as it did. -/
def fnTornSpec : ChangeSpec := { name := "fnTorn", fn := fun _ => fun
  | [d] => { results := [.lit (.bool true)], args := [d] }
  | _ => none }
def fnTornRow : OpenClaim := { program := "ytainemlfiibooaa", sum := "c1620c78deb3826facc8e72e9b9b2b9a67f95a869c0cb4f1427fc6484692ecc9", func := "loop.example/g00408/laws.FnTorn", spec := "fnTorn", unfollowed := true, recurses := true, apart := false }
def FnTornSaid : Prop := fnTornRow.holds Try.pinned (OpenSpec.ofChange fnTornSpec)

/-- ITS FALSE NEIGHBOUR: 'it returns false'. Refute it at one input. -/
def fnTornWrong : ChangeSpec := { name := "fnTorn", fn := fun _ => fun
  | [d] => { results := [.lit (.bool false)], args := [d] }
  | _ => none }
def FnTornWrongFalsely : Prop := fnTornRow.holds Try.pinned (OpenSpec.ofChange fnTornWrong)

/- THE SECOND FORM. 'bulk': how many values and letters a reading holds, each counted each time it is reached (what is shared counts as often as it is met; a slice's spare places count too). A statement '..UptoSaid' is the law's where the arguments, and the package variables that the reading takes, are together of bulk at most 1048576: NARROWER than '..Said'. Prove '..Said' where nothing that the law and all that it calls make is longer than what came in: it says more and counts as full. Else prove '..UptoSaid'. A law counts once. -/
mutual
def uptoBulk {H : Type} : DataW H → Nat
  | .lit (.string bytes) => bytes.length + 1
  | .lit _ => 1
  | .nil => 1
  | .ptr d => uptoBulk d + 1
  | .slice elems spare => uptoBulkAll elems + uptoBulkAll spare + 1
  | .agg parts => uptoBulkAll parts + 1
  | .iface _ d => uptoBulk d + 1
  | .map entries => uptoBulkEntries entries + 1
  | .held _ => 1
def uptoBulkAll {H : Type} : List (DataW H) → Nat
  | [] => 0
  | d :: r => uptoBulk d + uptoBulkAll r
def uptoBulkEntries {H : Type} : List (Lit × DataW H) → Nat
  | [] => 0
  | x :: r => uptoBulkEntry x + uptoBulkEntries r
def uptoBulkEntry {H : Type} : Lit × DataW H → Nat
  | (.string bytes, d) => bytes.length + uptoBulk d + 1
  | (_, d) => uptoBulk d + 1
 end
def uptoSmall : (H : Type) → List (DataW H) → Bool := fun _ ds => decide (uptoBulkAll ds ≤ 1048576)
def OpenSpec.upto (s : _root_.Go.ChangeSpec) : _root_.Go.OpenSpec := { _root_.Go.OpenSpec.ofChange s with cond := some uptoSmall }

/-- 'laws.FnExactRecordFault', WHERE WHAT IT READS IS OF BULK AT MOST 1048576: true; the input reads as it did. -/
def fnExactRecordFaultUptoRow : OpenClaim := { program := "ytainemlfiibooaa", sum := "c1620c78deb3826facc8e72e9b9b2b9a67f95a869c0cb4f1427fc6484692ecc9", func := "loop.example/g00408/laws.FnExactRecordFault", spec := "fnExactRecordFault", apart := false, narrowed := true }
def FnExactRecordFaultUptoSaid : Prop := fnExactRecordFaultUptoRow.holds Try.pinned (OpenSpec.upto fnExactRecordFaultSpec)

/-- 'laws.FnExactPackRecord', WHERE WHAT IT READS IS OF BULK AT MOST 1048576: true; the input reads as it did. -/
def fnExactPackRecordUptoRow : OpenClaim := { program := "ytainemlfiibooaa", sum := "c1620c78deb3826facc8e72e9b9b2b9a67f95a869c0cb4f1427fc6484692ecc9", func := "loop.example/g00408/laws.FnExactPackRecord", spec := "fnExactPackRecord", apart := false, narrowed := true }
def FnExactPackRecordUptoSaid : Prop := fnExactPackRecordUptoRow.holds Try.pinned (OpenSpec.upto fnExactPackRecordSpec)

/-- 'laws.FnExactReadRecord', WHERE WHAT IT READS IS OF BULK AT MOST 1048576: true; the input reads as it did. -/
def fnExactReadRecordUptoRow : OpenClaim := { program := "ytainemlfiibooaa", sum := "c1620c78deb3826facc8e72e9b9b2b9a67f95a869c0cb4f1427fc6484692ecc9", func := "loop.example/g00408/laws.FnExactReadRecord", spec := "fnExactReadRecord", apart := false, narrowed := true }
def FnExactReadRecordUptoSaid : Prop := fnExactReadRecordUptoRow.holds Try.pinned (OpenSpec.upto fnExactReadRecordSpec)

/-- 'laws.FnExactSameRecords', WHERE WHAT IT READS IS OF BULK AT MOST 1048576: true; the input reads as it did. -/
def fnExactSameRecordsUptoRow : OpenClaim := { program := "ytainemlfiibooaa", sum := "c1620c78deb3826facc8e72e9b9b2b9a67f95a869c0cb4f1427fc6484692ecc9", func := "loop.example/g00408/laws.FnExactSameRecords", spec := "fnExactSameRecords", unfollowed := true, recurses := true, apart := false, narrowed := true }
def FnExactSameRecordsUptoSaid : Prop := fnExactSameRecordsUptoRow.holds Try.pinned (OpenSpec.upto fnExactSameRecordsSpec)

/-- 'laws.FnExactLogFault', WHERE WHAT IT READS IS OF BULK AT MOST 1048576: true; the input reads as it did. -/
def fnExactLogFaultUptoRow : OpenClaim := { program := "ytainemlfiibooaa", sum := "c1620c78deb3826facc8e72e9b9b2b9a67f95a869c0cb4f1427fc6484692ecc9", func := "loop.example/g00408/laws.FnExactLogFault", spec := "fnExactLogFault", apart := false, narrowed := true }
def FnExactLogFaultUptoSaid : Prop := fnExactLogFaultUptoRow.holds Try.pinned (OpenSpec.upto fnExactLogFaultSpec)

/-- 'laws.FnExactSyncLog', WHERE WHAT IT READS IS OF BULK AT MOST 1048576: true; the input reads as it did. -/
def fnExactSyncLogUptoRow : OpenClaim := { program := "ytainemlfiibooaa", sum := "c1620c78deb3826facc8e72e9b9b2b9a67f95a869c0cb4f1427fc6484692ecc9", func := "loop.example/g00408/laws.FnExactSyncLog", spec := "fnExactSyncLog", apart := false, narrowed := true }
def FnExactSyncLogUptoSaid : Prop := fnExactSyncLogUptoRow.holds Try.pinned (OpenSpec.upto fnExactSyncLogSpec)

/-- 'laws.FnExactCrashLog', WHERE WHAT IT READS IS OF BULK AT MOST 1048576: true; the input reads as it did. -/
def fnExactCrashLogUptoRow : OpenClaim := { program := "ytainemlfiibooaa", sum := "c1620c78deb3826facc8e72e9b9b2b9a67f95a869c0cb4f1427fc6484692ecc9", func := "loop.example/g00408/laws.FnExactCrashLog", spec := "fnExactCrashLog", apart := false, narrowed := true }
def FnExactCrashLogUptoSaid : Prop := fnExactCrashLogUptoRow.holds Try.pinned (OpenSpec.upto fnExactCrashLogSpec)

/-- 'laws.FnExactReadLog', WHERE WHAT IT READS IS OF BULK AT MOST 1048576: true; the input reads as it did. -/
def fnExactReadLogUptoRow : OpenClaim := { program := "ytainemlfiibooaa", sum := "c1620c78deb3826facc8e72e9b9b2b9a67f95a869c0cb4f1427fc6484692ecc9", func := "loop.example/g00408/laws.FnExactReadLog", spec := "fnExactReadLog", apart := false, narrowed := true }
def FnExactReadLogUptoSaid : Prop := fnExactReadLogUptoRow.holds Try.pinned (OpenSpec.upto fnExactReadLogSpec)

/-- 'laws.FnExactPackAll', WHERE WHAT IT READS IS OF BULK AT MOST 1048576: true; the input reads as it did. -/
def fnExactPackAllUptoRow : OpenClaim := { program := "ytainemlfiibooaa", sum := "c1620c78deb3826facc8e72e9b9b2b9a67f95a869c0cb4f1427fc6484692ecc9", func := "loop.example/g00408/laws.FnExactPackAll", spec := "fnExactPackAll", apart := false, narrowed := true }
def FnExactPackAllUptoSaid : Prop := fnExactPackAllUptoRow.holds Try.pinned (OpenSpec.upto fnExactPackAllSpec)

/-- 'laws.FnTorn', WHERE WHAT IT READS IS OF BULK AT MOST 1048576: true; the input reads as it did. -/
def fnTornUptoRow : OpenClaim := { program := "ytainemlfiibooaa", sum := "c1620c78deb3826facc8e72e9b9b2b9a67f95a869c0cb4f1427fc6484692ecc9", func := "loop.example/g00408/laws.FnTorn", spec := "fnTorn", unfollowed := true, recurses := true, apart := false, narrowed := true }
def FnTornUptoSaid : Prop := fnTornUptoRow.holds Try.pinned (OpenSpec.upto fnTornSpec)

end Rows
end Go.Proofs.Ytainemlfiibooaa
