/-
  DERIVED. GIVEN WITH THE SEED: THE CARDS: each row of YtfpcfiaoilcbgaaDoorRows.lean that lists a variable, with what it lists TIED to the program's text (the seventh form; the later family's looks); each row that meets fmt, with fmt's text TOLD by the authors' own Lean function (tested against real Go, not proved from fmt's source: count such statements apart). THE CARD IS WHAT COUNTS. Prove the row's statement (the work); the ties are given (YtfpcfiaoilcbgaaDoorTie.lean); close each card by the builder's one call (the guide's Derived/Test/ToyasCard.lean, 'card_holds'). Laid BY PROGRAM, IN A SANDBOX (cutbox-door.mjs). By AI agents, Wed Nov 11 2026. No macro, syntax, notation, axiom, sorry.
-/
import Derived.Test.YtfpcfiaoilcbgaaDoorRows
import GoSem.ClaimSeven
namespace Go.Proofs.YtfpcfiaoilcbgaaDoor
namespace Rows

/-- THE TIED CARD OF 'laws.FnExactKeyText'. -/
def fnExactKeyTextCard : Claim7 := { stood := { row := fnExactKeyTextRow, standIns := [], harness := (true, "4a5dde9e5b67862242ac54c5612b008865b3002dd8afe79688ffaecd7057af7e"), looks := false }, kinds := [], alts := [], laidByText := true, laidKinds := [.data, .data, .data], laidTests := true, laidLooks := .later }
def FnExactKeyTextCardSaid : Prop := Claim7.holds Tryd.pinned (.plain (OpenSpec.ofChange fnExactKeyTextSpec)) fnExactKeyTextCard

/-- THE TIED CARD OF 'laws.FnExactRowText'. -/
def fnExactRowTextCard : Claim7 := { stood := { row := fnExactRowTextRow, standIns := [], harness := (true, "4a5dde9e5b67862242ac54c5612b008865b3002dd8afe79688ffaecd7057af7e"), looks := false }, kinds := [], alts := [], laidByText := true, laidKinds := [.data, .data, .data], laidTests := true, laidLooks := .later }
def FnExactRowTextCardSaid : Prop := Claim7.holds Tryd.pinned (.plain (OpenSpec.ofChange fnExactRowTextSpec)) fnExactRowTextCard

/-- THE TIED CARD OF 'laws.FnExactParseRow'. -/
def fnExactParseRowCard : Claim7 := { stood := { row := fnExactParseRowRow, standIns := [], harness := (true, "4a5dde9e5b67862242ac54c5612b008865b3002dd8afe79688ffaecd7057af7e"), looks := false }, kinds := [], alts := [], laidByText := true, laidKinds := [.data, .pinned], laidTests := true, laidLooks := .later }
def FnExactParseRowCardSaid : Prop := Claim7.holds Tryd.pinned (.plain (OpenSpec.ofChange fnExactParseRowSpec)) fnExactParseRowCard

/-- THE SECOND FORM's CARD OF 'laws.FnExactKeyText'. -/
def fnExactKeyTextUptoCard : Claim7 := { stood := { row := fnExactKeyTextUptoRow, standIns := [], harness := (true, "4a5dde9e5b67862242ac54c5612b008865b3002dd8afe79688ffaecd7057af7e"), looks := false }, kinds := [], alts := [], laidByText := true, laidKinds := [.data, .data, .data], laidTests := true, laidLooks := .later }
def FnExactKeyTextUptoCardSaid : Prop := Claim7.holds Tryd.pinned (.plain (OpenSpec.upto fnExactKeyTextSpec)) fnExactKeyTextUptoCard

/-- THE SECOND FORM's CARD OF 'laws.FnExactRowText'. -/
def fnExactRowTextUptoCard : Claim7 := { stood := { row := fnExactRowTextUptoRow, standIns := [], harness := (true, "4a5dde9e5b67862242ac54c5612b008865b3002dd8afe79688ffaecd7057af7e"), looks := false }, kinds := [], alts := [], laidByText := true, laidKinds := [.data, .data, .data], laidTests := true, laidLooks := .later }
def FnExactRowTextUptoCardSaid : Prop := Claim7.holds Tryd.pinned (.plain (OpenSpec.upto fnExactRowTextSpec)) fnExactRowTextUptoCard

/-- THE SECOND FORM's CARD OF 'laws.FnExactParseRow'. -/
def fnExactParseRowUptoCard : Claim7 := { stood := { row := fnExactParseRowUptoRow, standIns := [], harness := (true, "4a5dde9e5b67862242ac54c5612b008865b3002dd8afe79688ffaecd7057af7e"), looks := false }, kinds := [], alts := [], laidByText := true, laidKinds := [.data, .pinned], laidTests := true, laidLooks := .later }
def FnExactParseRowUptoCardSaid : Prop := Claim7.holds Tryd.pinned (.plain (OpenSpec.upto fnExactParseRowSpec)) fnExactParseRowUptoCard
end Rows
end Go.Proofs.YtfpcfiaoilcbgaaDoor
