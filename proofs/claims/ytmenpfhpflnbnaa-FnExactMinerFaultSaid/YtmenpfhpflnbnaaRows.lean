/-
  No cell of these rows narrows 'for every input' (looked for: loops, veiled, ifaces, maps, wideKeys, modest, calm, conditions, laid).
  DERIVED. THE GIVEN ROWS OF THIS SEAT. 7 by the template 'for every input the law returns true; each argument reads behind the call as it read before'; 0 by the template 'total and deterministic' (their statements: YtmenpfhpflnbnaaTotals.lean).
  GIVEN WITH THE SEED: the statements are not yours to turn. If you find one false, say at which input.
  Laid BY PROGRAM, IN A SANDBOX (cutbox-rows.mjs): the forced cells as the released guide's own fill.sh prints them over the translation 7ecd89c99e20914f… (all of the seat's roots in one cut). By AI agents, Wed Nov 11 2026. No macro, syntax, notation, axiom, sorry.
-/
import Derived.Test.YtmenpfhpflnbnaaChecked
import GoSem.Claim
import GoSem.ClaimJoined
import GoSem.ClaimMapViews
import Derived.JoinedTies
import Derived.KernelRfl
namespace Go.Proofs.Ytmenpfhpflnbnaa
/- THE CELL 'sum', in the pinned program and in every row, IS THE sha256 OF THE DUMP (.gsa) THAT YtmenpfhpflnbnaaProg.lean LOADS. Nothing in Lean hashes anything: it is a label: what it is worth is what the hold of that sum in a sandbox is worth. -/
noncomputable def Try.pinned : Pinned := { name := "ytmenpfhpflnbnaa", sum := "7ecd89c99e20914ff804421c2b1c4515965f77fa888cc584d58f342dcdd9cf69", checked := Try.checked }
namespace Rows
def none {H : Type} : Left H := { results := [], args := [] }

/-- 'laws.FnExactPagesFault': WHATEVER THE INPUT: true; the input reads as it did. -/
def fnExactPagesFaultSpec : ChangeSpec := { name := "fnExactPagesFault", fn := fun _ => fun
  | [d] => { results := [.lit (.bool true)], args := [d] }
  | _ => none }
def fnExactPagesFaultRow : OpenClaim := { program := "ytmenpfhpflnbnaa", sum := "7ecd89c99e20914ff804421c2b1c4515965f77fa888cc584d58f342dcdd9cf69", func := "loop.example/g00408/laws.FnExactPagesFault", spec := "fnExactPagesFault", unfollowed := true, recurses := true, plainKeys := false, apart := false }
def FnExactPagesFaultSaid : Prop := fnExactPagesFaultRow.holds Try.pinned (OpenSpec.ofChange fnExactPagesFaultSpec)

/-- ITS FALSE NEIGHBOUR: 'it returns false'. Refute it at one input. -/
def fnExactPagesFaultWrong : ChangeSpec := { name := "fnExactPagesFault", fn := fun _ => fun
  | [d] => { results := [.lit (.bool false)], args := [d] }
  | _ => none }
def FnExactPagesFaultWrongFalsely : Prop := fnExactPagesFaultRow.holds Try.pinned (OpenSpec.ofChange fnExactPagesFaultWrong)

/-- 'laws.FnExactFindRow': WHATEVER THE INPUT: true; the input reads as it did. -/
def fnExactFindRowSpec : ChangeSpec := { name := "fnExactFindRow", fn := fun _ => fun
  | [d1, d2, d3] => { results := [.lit (.bool true)], args := [d1, d2, d3] }
  | _ => none }
def fnExactFindRowRow : OpenClaim := { program := "ytmenpfhpflnbnaa", sum := "7ecd89c99e20914ff804421c2b1c4515965f77fa888cc584d58f342dcdd9cf69", func := "loop.example/g00408/laws.FnExactFindRow", spec := "fnExactFindRow", unfollowed := true, recurses := true, plainKeys := false, apart := false }
def FnExactFindRowSaid : Prop := fnExactFindRowRow.holds Try.pinned (OpenSpec.ofChange fnExactFindRowSpec)

/-- ITS FALSE NEIGHBOUR: 'it returns false'. Refute it at one input. -/
def fnExactFindRowWrong : ChangeSpec := { name := "fnExactFindRow", fn := fun _ => fun
  | [d1, d2, d3] => { results := [.lit (.bool false)], args := [d1, d2, d3] }
  | _ => none }
def FnExactFindRowWrongFalsely : Prop := fnExactFindRowRow.holds Try.pinned (OpenSpec.ofChange fnExactFindRowWrong)

/-- 'laws.FnExactRowsIn': WHATEVER THE INPUT: true; the input reads as it did. -/
def fnExactRowsInSpec : ChangeSpec := { name := "fnExactRowsIn", fn := fun _ => fun
  | [d] => { results := [.lit (.bool true)], args := [d] }
  | _ => none }
def fnExactRowsInRow : OpenClaim := { program := "ytmenpfhpflnbnaa", sum := "7ecd89c99e20914ff804421c2b1c4515965f77fa888cc584d58f342dcdd9cf69", func := "loop.example/g00408/laws.FnExactRowsIn", spec := "fnExactRowsIn", unfollowed := true, recurses := true, plainKeys := false, apart := false }
def FnExactRowsInSaid : Prop := fnExactRowsInRow.holds Try.pinned (OpenSpec.ofChange fnExactRowsInSpec)

/-- ITS FALSE NEIGHBOUR: 'it returns false'. Refute it at one input. -/
def fnExactRowsInWrong : ChangeSpec := { name := "fnExactRowsIn", fn := fun _ => fun
  | [d] => { results := [.lit (.bool false)], args := [d] }
  | _ => none }
def FnExactRowsInWrongFalsely : Prop := fnExactRowsInRow.holds Try.pinned (OpenSpec.ofChange fnExactRowsInWrong)

/-- 'laws.FnExactNewMiner': WHATEVER THE INPUT: true; the input reads as it did. -/
def fnExactNewMinerSpec : ChangeSpec := { name := "fnExactNewMiner", fn := fun _ => fun
  | [d] => { results := [.lit (.bool true)], args := [d] }
  | _ => none }
def fnExactNewMinerRow : OpenClaim := { program := "ytmenpfhpflnbnaa", sum := "7ecd89c99e20914ff804421c2b1c4515965f77fa888cc584d58f342dcdd9cf69", func := "loop.example/g00408/laws.FnExactNewMiner", spec := "fnExactNewMiner", unfollowed := true, recurses := true, plainKeys := false, apart := false }
def FnExactNewMinerSaid : Prop := fnExactNewMinerRow.holds Try.pinned (OpenSpec.ofChange fnExactNewMinerSpec)

/-- ITS FALSE NEIGHBOUR: 'it returns false'. Refute it at one input. -/
def fnExactNewMinerWrong : ChangeSpec := { name := "fnExactNewMiner", fn := fun _ => fun
  | [d] => { results := [.lit (.bool false)], args := [d] }
  | _ => none }
def FnExactNewMinerWrongFalsely : Prop := fnExactNewMinerRow.holds Try.pinned (OpenSpec.ofChange fnExactNewMinerWrong)

/-- 'laws.FnExactMinerFault': WHATEVER THE INPUT: true; the input reads as it did. -/
def fnExactMinerFaultSpec : ChangeSpec := { name := "fnExactMinerFault", fn := fun _ => fun
  | [d] => { results := [.lit (.bool true)], args := [d] }
  | _ => none }
def fnExactMinerFaultRow : OpenClaim := { program := "ytmenpfhpflnbnaa", sum := "7ecd89c99e20914ff804421c2b1c4515965f77fa888cc584d58f342dcdd9cf69", func := "loop.example/g00408/laws.FnExactMinerFault", spec := "fnExactMinerFault", unfollowed := true, recurses := true, plainKeys := false, apart := false }
def FnExactMinerFaultSaid : Prop := fnExactMinerFaultRow.holds Try.pinned (OpenSpec.ofChange fnExactMinerFaultSpec)

/-- ITS FALSE NEIGHBOUR: 'it returns false'. Refute it at one input. -/
def fnExactMinerFaultWrong : ChangeSpec := { name := "fnExactMinerFault", fn := fun _ => fun
  | [d] => { results := [.lit (.bool false)], args := [d] }
  | _ => none }
def FnExactMinerFaultWrongFalsely : Prop := fnExactMinerFaultRow.holds Try.pinned (OpenSpec.ofChange fnExactMinerFaultWrong)

/-- 'laws.FnExactDeleteEdits': WHATEVER THE INPUT: true; the input reads as it did. -/
def fnExactDeleteEditsSpec : ChangeSpec := { name := "fnExactDeleteEdits", fn := fun _ => fun
  | [d1, d2, d3] => { results := [.lit (.bool true)], args := [d1, d2, d3] }
  | _ => none }
def fnExactDeleteEditsRow : OpenClaim := { program := "ytmenpfhpflnbnaa", sum := "7ecd89c99e20914ff804421c2b1c4515965f77fa888cc584d58f342dcdd9cf69", func := "loop.example/g00408/laws.FnExactDeleteEdits", spec := "fnExactDeleteEdits", unfollowed := true, recurses := true, plainKeys := false, apart := false }
def FnExactDeleteEditsSaid : Prop := fnExactDeleteEditsRow.holds Try.pinned (OpenSpec.ofChange fnExactDeleteEditsSpec)

/-- ITS FALSE NEIGHBOUR: 'it returns false'. Refute it at one input. -/
def fnExactDeleteEditsWrong : ChangeSpec := { name := "fnExactDeleteEdits", fn := fun _ => fun
  | [d1, d2, d3] => { results := [.lit (.bool false)], args := [d1, d2, d3] }
  | _ => none }
def FnExactDeleteEditsWrongFalsely : Prop := fnExactDeleteEditsRow.holds Try.pinned (OpenSpec.ofChange fnExactDeleteEditsWrong)

/-- 'laws.FnViews': WHATEVER THE INPUT: true; the input reads as it did. -/
def fnViewsSpec : ChangeSpec := { name := "fnViews", fn := fun _ => fun
  | [d] => { results := [.lit (.bool true)], args := [d] }
  | _ => none }
def fnViewsRow : OpenClaim := { program := "ytmenpfhpflnbnaa", sum := "7ecd89c99e20914ff804421c2b1c4515965f77fa888cc584d58f342dcdd9cf69", func := "loop.example/g00408/laws.FnViews", spec := "fnViews", unfollowed := true, recurses := true, plainKeys := false, apart := false }
def FnViewsSaid : Prop := fnViewsRow.holds Try.pinned (OpenSpec.ofChange fnViewsSpec)

/-- ITS FALSE NEIGHBOUR: 'it returns false'. Refute it at one input. -/
def fnViewsWrong : ChangeSpec := { name := "fnViews", fn := fun _ => fun
  | [d] => { results := [.lit (.bool false)], args := [d] }
  | _ => none }
def FnViewsWrongFalsely : Prop := fnViewsRow.holds Try.pinned (OpenSpec.ofChange fnViewsWrong)

/- THE SECOND FORM. 'bulk': how many values and letters a reading holds, each counted each time it is reached (what is shared counts as often as it is met; a slice's spare places count too). A statement '..UptoSaid' is the law's where the arguments, and the package variables that the reading takes, are together of bulk at most 1048576: NARROWER than '..Said'. Prove '..Said' where nothing that the law and all that it calls make is longer than what came in: it says more and counts as full. Else prove '..UptoSaid'. A law counts once. -/
mutual
def uptoBulk {H : Type} : DataW H → Nat
  | .lit (.string bytes) => bytes.length + 1
  | .lit _ => 1
  | .nil => 1
  | .ptr d => uptoBulk d + 1
  | .slice elems spare => uptoBulkAll elems + uptoBulkAll spare + 1
  | .agg parts => uptoBulkAll parts + 1
  | .iface _ d => uptoBulk d + 1
  | .map entries => uptoBulkEntries entries + 1
  | .held _ => 1
def uptoBulkAll {H : Type} : List (DataW H) → Nat
  | [] => 0
  | d :: r => uptoBulk d + uptoBulkAll r
def uptoBulkEntries {H : Type} : List (Lit × DataW H) → Nat
  | [] => 0
  | x :: r => uptoBulkEntry x + uptoBulkEntries r
def uptoBulkEntry {H : Type} : Lit × DataW H → Nat
  | (.string bytes, d) => bytes.length + uptoBulk d + 1
  | (_, d) => uptoBulk d + 1
 end
def uptoSmall : (H : Type) → List (DataW H) → Bool := fun _ ds => decide (uptoBulkAll ds ≤ 1048576)
def OpenSpec.upto (s : _root_.Go.ChangeSpec) : _root_.Go.OpenSpec := { _root_.Go.OpenSpec.ofChange s with cond := some uptoSmall }

/-- 'laws.FnExactPagesFault', WHERE WHAT IT READS IS OF BULK AT MOST 1048576: true; the input reads as it did. -/
def fnExactPagesFaultUptoRow : OpenClaim := { program := "ytmenpfhpflnbnaa", sum := "7ecd89c99e20914ff804421c2b1c4515965f77fa888cc584d58f342dcdd9cf69", func := "loop.example/g00408/laws.FnExactPagesFault", spec := "fnExactPagesFault", unfollowed := true, recurses := true, plainKeys := false, apart := false, narrowed := true }
def FnExactPagesFaultUptoSaid : Prop := fnExactPagesFaultUptoRow.holds Try.pinned (OpenSpec.upto fnExactPagesFaultSpec)

/-- 'laws.FnExactFindRow', WHERE WHAT IT READS IS OF BULK AT MOST 1048576: true; the input reads as it did. -/
def fnExactFindRowUptoRow : OpenClaim := { program := "ytmenpfhpflnbnaa", sum := "7ecd89c99e20914ff804421c2b1c4515965f77fa888cc584d58f342dcdd9cf69", func := "loop.example/g00408/laws.FnExactFindRow", spec := "fnExactFindRow", unfollowed := true, recurses := true, plainKeys := false, apart := false, narrowed := true }
def FnExactFindRowUptoSaid : Prop := fnExactFindRowUptoRow.holds Try.pinned (OpenSpec.upto fnExactFindRowSpec)

/-- 'laws.FnExactRowsIn', WHERE WHAT IT READS IS OF BULK AT MOST 1048576: true; the input reads as it did. -/
def fnExactRowsInUptoRow : OpenClaim := { program := "ytmenpfhpflnbnaa", sum := "7ecd89c99e20914ff804421c2b1c4515965f77fa888cc584d58f342dcdd9cf69", func := "loop.example/g00408/laws.FnExactRowsIn", spec := "fnExactRowsIn", unfollowed := true, recurses := true, plainKeys := false, apart := false, narrowed := true }
def FnExactRowsInUptoSaid : Prop := fnExactRowsInUptoRow.holds Try.pinned (OpenSpec.upto fnExactRowsInSpec)

/-- 'laws.FnExactNewMiner', WHERE WHAT IT READS IS OF BULK AT MOST 1048576: true; the input reads as it did. -/
def fnExactNewMinerUptoRow : OpenClaim := { program := "ytmenpfhpflnbnaa", sum := "7ecd89c99e20914ff804421c2b1c4515965f77fa888cc584d58f342dcdd9cf69", func := "loop.example/g00408/laws.FnExactNewMiner", spec := "fnExactNewMiner", unfollowed := true, recurses := true, plainKeys := false, apart := false, narrowed := true }
def FnExactNewMinerUptoSaid : Prop := fnExactNewMinerUptoRow.holds Try.pinned (OpenSpec.upto fnExactNewMinerSpec)

/-- 'laws.FnExactMinerFault', WHERE WHAT IT READS IS OF BULK AT MOST 1048576: true; the input reads as it did. -/
def fnExactMinerFaultUptoRow : OpenClaim := { program := "ytmenpfhpflnbnaa", sum := "7ecd89c99e20914ff804421c2b1c4515965f77fa888cc584d58f342dcdd9cf69", func := "loop.example/g00408/laws.FnExactMinerFault", spec := "fnExactMinerFault", unfollowed := true, recurses := true, plainKeys := false, apart := false, narrowed := true }
def FnExactMinerFaultUptoSaid : Prop := fnExactMinerFaultUptoRow.holds Try.pinned (OpenSpec.upto fnExactMinerFaultSpec)

/-- 'laws.FnExactDeleteEdits', WHERE WHAT IT READS IS OF BULK AT MOST 1048576: true; the input reads as it did. -/
def fnExactDeleteEditsUptoRow : OpenClaim := { program := "ytmenpfhpflnbnaa", sum := "7ecd89c99e20914ff804421c2b1c4515965f77fa888cc584d58f342dcdd9cf69", func := "loop.example/g00408/laws.FnExactDeleteEdits", spec := "fnExactDeleteEdits", unfollowed := true, recurses := true, plainKeys := false, apart := false, narrowed := true }
def FnExactDeleteEditsUptoSaid : Prop := fnExactDeleteEditsUptoRow.holds Try.pinned (OpenSpec.upto fnExactDeleteEditsSpec)

/-- 'laws.FnViews', WHERE WHAT IT READS IS OF BULK AT MOST 1048576: true; the input reads as it did. -/
def fnViewsUptoRow : OpenClaim := { program := "ytmenpfhpflnbnaa", sum := "7ecd89c99e20914ff804421c2b1c4515965f77fa888cc584d58f342dcdd9cf69", func := "loop.example/g00408/laws.FnViews", spec := "fnViews", unfollowed := true, recurses := true, plainKeys := false, apart := false, narrowed := true }
def FnViewsUptoSaid : Prop := fnViewsUptoRow.holds Try.pinned (OpenSpec.upto fnViewsSpec)

end Rows
end Go.Proofs.Ytmenpfhpflnbnaa
