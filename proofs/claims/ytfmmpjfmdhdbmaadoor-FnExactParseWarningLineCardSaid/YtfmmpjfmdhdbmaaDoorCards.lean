/-
  DERIVED. GIVEN WITH THE SEED: THE CARDS: each row of YtfmmpjfmdhdbmaaDoorRows.lean that lists a variable, with what it lists TIED to the program's text (the seventh form; the later family's looks); each row that meets fmt, with fmt's text TOLD by the authors' own Lean function (tested against real Go, not proved from fmt's source: count such statements apart). THE CARD IS WHAT COUNTS. Prove the row's statement (the work); the ties are given (YtfmmpjfmdhdbmaaDoorTie.lean); close each card by the builder's one call (the guide's Derived/Test/ToyasCard.lean, 'card_holds'). Laid BY PROGRAM, IN A SANDBOX (cutbox-door.mjs). By AI agents, Wed Nov 11 2026. No macro, syntax, notation, axiom, sorry.
-/
import Derived.Test.YtfmmpjfmdhdbmaaDoorRows
import GoSem.ClaimSeven
namespace Go.Proofs.YtfmmpjfmdhdbmaaDoor
namespace Rows

/-- THE TIED CARD OF 'laws.FnExactParseWarning'. -/
def fnExactParseWarningCard : Claim7 := { stood := { row := fnExactParseWarningRow, standIns := [], harness := (true, "d5e75ed94dc369fa954de1ba46b869973e05c8123263a20bdbed7b64c3ec356c"), looks := true }, kinds := [], alts := [], laidByText := true, laidKinds := [.data, .data, .data, .sentinel, .sentinel, .widerDeep, .widerDeep], laidTests := true, laidLooks := .later }
def FnExactParseWarningCardSaid : Prop := Claim7.holds Tryd.pinned (.plain (OpenSpec.ofChange fnExactParseWarningSpec)) fnExactParseWarningCard

/-- THE TIED CARD OF 'laws.FnExactParseCode'. -/
def fnExactParseCodeCard : Claim7 := { stood := { row := fnExactParseCodeRow, standIns := [], harness := (true, "d5e75ed94dc369fa954de1ba46b869973e05c8123263a20bdbed7b64c3ec356c"), looks := true }, kinds := [], alts := [], laidByText := true, laidKinds := [.data, .data, .data, .data, .sentinel, .sentinel, .pinned], laidTests := true, laidLooks := .later }
def FnExactParseCodeCardSaid : Prop := Claim7.holds Tryd.pinned (.plain (OpenSpec.ofChange fnExactParseCodeSpec)) fnExactParseCodeCard

/-- THE TIED CARD OF 'laws.FnExactParseOverview'. -/
def fnExactParseOverviewCard : Claim7 := { stood := { row := fnExactParseOverviewRow, standIns := [], harness := (true, "d5e75ed94dc369fa954de1ba46b869973e05c8123263a20bdbed7b64c3ec356c"), looks := true }, kinds := [], alts := [], laidByText := true, laidKinds := [.data, .data, .data, .sentinel, .sentinel, .widerDeep, .widerDeep], laidTests := true, laidLooks := .later }
def FnExactParseOverviewCardSaid : Prop := Claim7.holds Tryd.pinned (.plain (OpenSpec.ofChange fnExactParseOverviewSpec)) fnExactParseOverviewCard

/-- THE TIED CARD OF 'laws.FnExactParseWarningLine'. -/
def fnExactParseWarningLineCard : Claim7 := { stood := { row := fnExactParseWarningLineRow, standIns := [], harness := (true, "d5e75ed94dc369fa954de1ba46b869973e05c8123263a20bdbed7b64c3ec356c"), looks := true }, kinds := [], alts := [], laidByText := true, laidKinds := [.data, .data, .data, .data, .sentinel, .sentinel, .widerDeep, .widerDeep, .pinned, .pinned], laidTests := true, laidLooks := .later }
def FnExactParseWarningLineCardSaid : Prop := Claim7.holds Tryd.pinned (.plain (OpenSpec.ofChange fnExactParseWarningLineSpec)) fnExactParseWarningLineCard

/-- THE SECOND FORM's CARD OF 'laws.FnExactParseWarning'. -/
def fnExactParseWarningUptoCard : Claim7 := { stood := { row := fnExactParseWarningUptoRow, standIns := [], harness := (true, "d5e75ed94dc369fa954de1ba46b869973e05c8123263a20bdbed7b64c3ec356c"), looks := true }, kinds := [], alts := [], laidByText := true, laidKinds := [.data, .data, .data, .sentinel, .sentinel, .widerDeep, .widerDeep], laidTests := true, laidLooks := .later }
def FnExactParseWarningUptoCardSaid : Prop := Claim7.holds Tryd.pinned (.plain (OpenSpec.upto fnExactParseWarningSpec)) fnExactParseWarningUptoCard

/-- THE SECOND FORM's CARD OF 'laws.FnExactParseCode'. -/
def fnExactParseCodeUptoCard : Claim7 := { stood := { row := fnExactParseCodeUptoRow, standIns := [], harness := (true, "d5e75ed94dc369fa954de1ba46b869973e05c8123263a20bdbed7b64c3ec356c"), looks := true }, kinds := [], alts := [], laidByText := true, laidKinds := [.data, .data, .data, .data, .sentinel, .sentinel, .pinned], laidTests := true, laidLooks := .later }
def FnExactParseCodeUptoCardSaid : Prop := Claim7.holds Tryd.pinned (.plain (OpenSpec.upto fnExactParseCodeSpec)) fnExactParseCodeUptoCard

/-- THE SECOND FORM's CARD OF 'laws.FnExactParseOverview'. -/
def fnExactParseOverviewUptoCard : Claim7 := { stood := { row := fnExactParseOverviewUptoRow, standIns := [], harness := (true, "d5e75ed94dc369fa954de1ba46b869973e05c8123263a20bdbed7b64c3ec356c"), looks := true }, kinds := [], alts := [], laidByText := true, laidKinds := [.data, .data, .data, .sentinel, .sentinel, .widerDeep, .widerDeep], laidTests := true, laidLooks := .later }
def FnExactParseOverviewUptoCardSaid : Prop := Claim7.holds Tryd.pinned (.plain (OpenSpec.upto fnExactParseOverviewSpec)) fnExactParseOverviewUptoCard

/-- THE SECOND FORM's CARD OF 'laws.FnExactParseWarningLine'. -/
def fnExactParseWarningLineUptoCard : Claim7 := { stood := { row := fnExactParseWarningLineUptoRow, standIns := [], harness := (true, "d5e75ed94dc369fa954de1ba46b869973e05c8123263a20bdbed7b64c3ec356c"), looks := true }, kinds := [], alts := [], laidByText := true, laidKinds := [.data, .data, .data, .data, .sentinel, .sentinel, .widerDeep, .widerDeep, .pinned, .pinned], laidTests := true, laidLooks := .later }
def FnExactParseWarningLineUptoCardSaid : Prop := Claim7.holds Tryd.pinned (.plain (OpenSpec.upto fnExactParseWarningLineSpec)) fnExactParseWarningLineUptoCard
end Rows
end Go.Proofs.YtfmmpjfmdhdbmaaDoor
