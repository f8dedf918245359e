/-
  DERIVED. GIVEN WITH THE SEED: THE CARDS: each row of YtleadjbfcenofaaDoorRows.lean that lists a variable, with what it lists TIED to the program's text (the seventh form; the later family's looks); each row that meets fmt, with fmt's text TOLD by the authors' own Lean function (tested against real Go, not proved from fmt's source: count such statements apart). THE CARD IS WHAT COUNTS. Prove the row's statement (the work); the ties are given (YtleadjbfcenofaaDoorTie.lean); close each card by the builder's one call (the guide's Derived/Test/ToyasCard.lean, 'card_holds'). Laid BY PROGRAM, IN A SANDBOX (cutbox-door.mjs). By AI agents, Wed Nov 11 2026. No macro, syntax, notation, axiom, sorry.
-/
import Derived.Test.YtleadjbfcenofaaDoorRows
import GoSem.ClaimSeven
namespace Go.Proofs.YtleadjbfcenofaaDoor
namespace Rows

/-- THE TIED CARD OF 'laws.FnExactParseOverview'. -/
def fnExactParseOverviewCard : Claim7 := { stood := { row := fnExactParseOverviewRow, standIns := [], harness := (true, "401357eb5a9dc02a40c18ae9eb1fc3fa14b2f08c47e8032d133ccf395c7cb384"), looks := true }, kinds := [], alts := [], laidByText := true, laidKinds := [.data, .data, .data, .sentinel, .sentinel, .widerDeep, .widerDeep], laidTests := true, laidLooks := .later }
def FnExactParseOverviewCardSaid : Prop := Claim7.holds Tryd.pinned (.plain (OpenSpec.ofChange fnExactParseOverviewSpec)) fnExactParseOverviewCard

/-- THE SECOND FORM's CARD OF 'laws.FnExactParseOverview'. -/
def fnExactParseOverviewUptoCard : Claim7 := { stood := { row := fnExactParseOverviewUptoRow, standIns := [], harness := (true, "401357eb5a9dc02a40c18ae9eb1fc3fa14b2f08c47e8032d133ccf395c7cb384"), looks := true }, kinds := [], alts := [], laidByText := true, laidKinds := [.data, .data, .data, .sentinel, .sentinel, .widerDeep, .widerDeep], laidTests := true, laidLooks := .later }
def FnExactParseOverviewUptoCardSaid : Prop := Claim7.holds Tryd.pinned (.plain (OpenSpec.upto fnExactParseOverviewSpec)) fnExactParseOverviewUptoCard
end Rows
end Go.Proofs.YtleadjbfcenofaaDoor
