/-
  DERIVED. GIVEN WITH THE SEED: THE CARDS: each row of YtleadjbfcenofaaGreatDoorRows.lean that lists a variable, with what it lists TIED to the program's text (the seventh form; the later family's looks); each row that meets fmt, with fmt's text TOLD by the authors' own Lean function (tested against real Go, not proved from fmt's source: count such statements apart). THE CARD IS WHAT COUNTS. Prove the row's statement (the work); the ties are given (YtleadjbfcenofaaGreatDoorTie.lean); close each card by the builder's one call (the guide's Derived/Test/ToyasCard.lean, 'card_holds'). Laid BY PROGRAM, IN A SANDBOX (cutbox-door.mjs). By AI agents, Wed Nov 11 2026. No macro, syntax, notation, axiom, sorry.
-/
import Derived.Test.YtleadjbfcenofaaGreatDoorRows
import GoSem.ClaimSeven
namespace Go.Proofs.YtleadjbfcenofaaGreatDoor
namespace Rows

/-- THE TIED CARD OF 'laws.FnWarningTexts'. -/
def fnWarningTextsCard : Claim7 := { stood := { row := fnWarningTextsRow, standIns := [], harness := (true, "d0e53b5f08612d014acbdb0014cdb8f3d257bbf49da471b9610f39a5e39f926f"), looks := true }, kinds := [], alts := [], laidByText := true, laidKinds := [.data, .data, .data, .sentinel, .sentinel, .widerDeep, .widerDeep], laidTests := true, laidLooks := .later }
def FnWarningTextsCardSaid : Prop := Claim7.holds Tryz.pinned (.plain (OpenSpec.ofChange fnWarningTextsSpec)) fnWarningTextsCard

/-- THE SECOND FORM's CARD OF 'laws.FnWarningTexts'. -/
def fnWarningTextsUptoCard : Claim7 := { stood := { row := fnWarningTextsUptoRow, standIns := [], harness := (true, "d0e53b5f08612d014acbdb0014cdb8f3d257bbf49da471b9610f39a5e39f926f"), looks := true }, kinds := [], alts := [], laidByText := true, laidKinds := [.data, .data, .data, .sentinel, .sentinel, .widerDeep, .widerDeep], laidTests := true, laidLooks := .later }
def FnWarningTextsUptoCardSaid : Prop := Claim7.holds Tryz.pinned (.plain (OpenSpec.upto fnWarningTextsSpec)) fnWarningTextsUptoCard
end Rows
end Go.Proofs.YtleadjbfcenofaaGreatDoor
