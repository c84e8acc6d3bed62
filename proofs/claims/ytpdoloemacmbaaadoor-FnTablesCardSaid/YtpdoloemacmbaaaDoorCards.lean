/-
  DERIVED. GIVEN WITH THE SEED: THE CARDS: each row of YtpdoloemacmbaaaDoorRows.lean that lists a variable, with what it lists TIED to the program's text (the seventh form; the later family's looks); each row that meets fmt, with fmt's text TOLD by the authors' own Lean function (tested against real Go, not proved from fmt's source: count such statements apart). THE CARD IS WHAT COUNTS. Prove the row's statement (the work); the ties are given (YtpdoloemacmbaaaDoorTie.lean); close each card by the builder's one call (the guide's Derived/Test/ToyasCard.lean, 'card_holds'). Laid BY PROGRAM, IN A SANDBOX (cutbox-door.mjs). By AI agents, Wed Nov 11 2026. No macro, syntax, notation, axiom, sorry.
-/
import Derived.Test.YtpdoloemacmbaaaDoorRows
import GoSem.ClaimSeven
namespace Go.Proofs.YtpdoloemacmbaaaDoor
namespace Rows

/-- THE TIED CARD OF 'laws.FnRows'. -/
def fnRowsCard : Claim7 := { stood := { row := fnRowsRow, standIns := [], harness := (true, "f7dea7958500d4b3648fe155ce19536aa8671bebf13512d580c6d038caadfea9"), looks := false }, kinds := [], alts := [], laidByText := true, laidKinds := [.data, .data, .data, .data, .pinned], laidTests := true, laidLooks := .later }
def FnRowsCardSaid : Prop := Claim7.holds Tryd.pinned (.plain (OpenSpec.ofChange fnRowsSpec)) fnRowsCard

/-- THE TIED CARD OF 'laws.FnTables'. -/
def fnTablesCard : Claim7 := { stood := { row := fnTablesRow, standIns := [], harness := (true, "f7dea7958500d4b3648fe155ce19536aa8671bebf13512d580c6d038caadfea9"), looks := false }, kinds := [], alts := [], laidByText := true, laidKinds := [.data, .data, .data], laidTests := true, laidLooks := .later }
def FnTablesCardSaid : Prop := Claim7.holds Tryd.pinned (.plain (OpenSpec.ofChange fnTablesSpec)) fnTablesCard

/-- THE SECOND FORM's CARD OF 'laws.FnRows'. -/
def fnRowsUptoCard : Claim7 := { stood := { row := fnRowsUptoRow, standIns := [], harness := (true, "f7dea7958500d4b3648fe155ce19536aa8671bebf13512d580c6d038caadfea9"), looks := false }, kinds := [], alts := [], laidByText := true, laidKinds := [.data, .data, .data, .data, .pinned], laidTests := true, laidLooks := .later }
def FnRowsUptoCardSaid : Prop := Claim7.holds Tryd.pinned (.plain (OpenSpec.upto fnRowsSpec)) fnRowsUptoCard

/-- THE SECOND FORM's CARD OF 'laws.FnTables'. -/
def fnTablesUptoCard : Claim7 := { stood := { row := fnTablesUptoRow, standIns := [], harness := (true, "f7dea7958500d4b3648fe155ce19536aa8671bebf13512d580c6d038caadfea9"), looks := false }, kinds := [], alts := [], laidByText := true, laidKinds := [.data, .data, .data], laidTests := true, laidLooks := .later }
def FnTablesUptoCardSaid : Prop := Claim7.holds Tryd.pinned (.plain (OpenSpec.upto fnTablesSpec)) fnTablesUptoCard
end Rows
end Go.Proofs.YtpdoloemacmbaaaDoor
